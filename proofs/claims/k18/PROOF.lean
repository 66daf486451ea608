import PyProof.Rows.All
import Wide.All
import OpenK.AllK
import Wide.FinOn
import HandS.ForMost
import HandS.Walk
import HandS.Lambda
import HandS.HeadWalk
import HandS.Flow
import HandS.Style
import HandS.Defaults
import HandS.Wide
import HandS.Text
import HandS.Deep
import HandS.TupAny
import HandS.IsInst
import HandS.Conv
import HandS.RaiseMore
import PyProof.FitsInt
import KE.KRevSl
import PyProof.EnumMake
import PyProof.Draws
import PyProof.ReprLen
import PyProof.StrLawsRepr
import HandS.FStr
import HandS.Codes
import KE.DatumOrd
import KE.KSortRegAny
import HandS.SortInts
import HandS.Strs
import HandS.NoneIn
import HandS.Comp
import HandS.ExcInit
import HandS.ExcSuper
import HandS.ExcIs
import KE.KExcSuper
import KE.KExcIs
import KE.KDflt
import HandS.EndTab
import HandS.Star
import HandS.Zip
import PySem.Challenge.RW_everyhalf_k18_what_a_state_is
set_option Elab.async false
set_option linter.all false
set_option autoImplicit false
set_option maxRecDepth 100000
set_option Elab.async false
set_option linter.all false
set_option autoImplicit false
set_option maxRecDepth 100000
/-! Values as trees, heaps in two parts: what is frozen, what one def owns. -/
namespace L2.DL
open PySem PySem.Spec PyProof.Rows

/-- a value as a tree -/
inductive D where
  | non | bl (b : Bool) | int (i : Int) | str (x : Str) | lst (ds : List D) | tup (ds : List D) | dic (ks : List Key) (vs : List D)
  | fn (x : Str) | exc (c : Nat) (ks : List Nat) (vs : List D)
/-- the error classes, their fields -/
def exNm : Nat → Str
  | 0 => "BadNumber" | 1 => "BadWord" | 2 => "BadState" | 3 => "BadTree" | 4 => "BadBook" | 5 => "BadCompany" | 6 => "BadWalk" | 7 => "Misfit" | 8 => "TooMany" | 9 => "Nothing" | 10 => "BadText" | 11 => "BadLine" | _ => "?"
def fdNm : Nat → Str
  | 0 => "part" | 1 => "what" | 2 => "most" | 3 => "line" | 4 => "item" | 5 => "error" | _ => "?"
/-- a caught exception at a -/
def XO (cls : Value) (d : Option Addr) (a : Addr) : HO := .ext fun h => ∃ (oe : Obj) (vs : Array Value), h.get? a = some oe ∧ Zc cls d oe ∧ oe.data = .fields vs
/-- x names the object at a -/
def Glo (K : PySem.W.Frag) (x : Str) (a : Addr) : Prop := PySem.W.nsIn K mainGlobals x = some (some (.ref a))

mutual
inductive Has (K : PySem.W.Frag) (H : Hp) : V → D → Prop
  | non : Has K H .non .non
  | bl (b : Bool) : Has K H (.bl b) (.bl b)
  | int (i : Int) : Has K H (.int i) (.int i)
  | str (x : Str) : Has K H (.str x) (.str x)
  | lst {a : Addr} {xs : List V} {ds : List D} : H a = some (.lst xs) → HasL K H xs ds → Has K H (.ref a) (.lst ds)
  | tup {a : Addr} {xs : List V} {ds : List D} : H a = some (.tup xs) → HasL K H xs ds → Has K H (.ref a) (.tup ds)
  | dic {a : Addr} {kvs : List (Key × V)} {ks : List Key} {ds : List D} : H a = some (.dK kvs) → kvs.map (·.1) = ks → HasL K H (kvs.map (·.2)) ds → Has K H (.ref a) (.dic ks ds)
  | fn {a : Addr} {x : Str} : Glo K x a → Has K H (.ref a) (.fn x)
  | exc {a C dd : Addr} {c : Nat} {fs : List (Str × V)} {ks : List Nat} {ds : List D} : Glo K (exNm c) C → H a = some (XO (.ref C) (some dd) a) → H dd = some (.xd fs) → fs.map (·.1) = ks.map fdNm → HasL K H (fs.map (·.2)) ds → Has K H (.ref a) (.exc c ks ds)
inductive HasL (K : PySem.W.Frag) (H : Hp) : List V → List D → Prop
  | nil : HasL K H [] []
  | cons {v : V} {vs : List V} {d : D} {ds : List D} : Has K H v d → HasL K H vs ds → HasL K H (v :: vs) (d :: ds)
end

theorem SameRd {H H' : Hp} (e : Same H H') {a : Addr} {u : HO} (h : Rd H a u) : Rd H' a u := by
  rcases h with h | ⟨o, h⟩
  · exact .inl (e _ _ h)
  · exact .inr ⟨o, e _ _ h⟩
theorem SameT {K : PySem.W.Frag} {H H' : Hp} (e : Same H H') {a : Addr} {xs : List V} (h : SqT K H a xs) : SqT K H' a xs := by
  rcases h with h | h
  · exact .inl (SameRd e h)
  · exact .inr h
mutual
theorem Has.mono {K : PySem.W.Frag} {H H' : Hp} (e : Same H H') : ∀ {v : V} {d : D}, Has K H v d → Has K H' v d
  | _, _, .non => .non
  | _, _, .bl b => .bl b
  | _, _, .int b => .int b
  | _, _, .str b => .str b
  | _, _, .lst h1 h3 => .lst (e _ _ h1) (HasL.mono e h3)
  | _, _, .tup h1 h3 => .tup (e _ _ h1) (HasL.mono e h3)
  | _, _, .dic h1 h2 h3 => .dic (e _ _ h1) h2 (HasL.mono e h3)
  | _, _, .fn h => .fn h
  | _, _, .exc g h1 h2 h3 h4 => .exc g (e _ _ h1) (e _ _ h2) h3 (HasL.mono e h4)
theorem HasL.mono {K : PySem.W.Frag} {H H' : Hp} (e : Same H H') : ∀ {v : List V} {d : List D}, HasL K H v d → HasL K H' v d
  | _, _, .nil => .nil
  | _, _, .cons h1 h2 => .cons (Has.mono e h1) (HasL.mono e h2)
end
section
variable {K : PySem.W.Frag} {H H' : Hp}
theorem HasL.length : ∀ {vs : List V} {ds : List D}, HasL K H vs ds → vs.length = ds.length
  | _, _, .nil => rfl
  | _, _, .cons _ h => by rw [List.length_cons, List.length_cons, h.length]
theorem HasL.get : ∀ {vs : List V} {ds : List D} {i : Nat} {v : V}, HasL K H vs ds → vs[i]? = some v → ∃ d, ds[i]? = some d ∧ Has K H v d
  | _, _, _, _, .nil, e => by simp at e
  | _, _, 0, _, .cons r _, e => by simp at e; subst e; exact ⟨_, rfl, r⟩
  | _, _, i + 1, x, .cons _ t, e => by
    obtain ⟨u, h1, h2⟩ := HasL.get (i := i) (v := x) t (by simpa using e)
    exact ⟨u, by simpa using h1, h2⟩
theorem HasL.getD' : ∀ {vs : List V} {ds : List D} {i : Nat} {d : D}, HasL K H vs ds → ds[i]? = some d → ∃ v, vs[i]? = some v ∧ Has K H v d
  | _, _, _, _, .nil, e => by simp at e
  | _, _, 0, _, .cons r _, e => by simp at e; subst e; exact ⟨_, rfl, r⟩
  | _, _, i + 1, x, .cons _ t, e => by
    obtain ⟨u, h1, h2⟩ := HasL.getD' (i := i) (d := x) t (by simpa using e)
    exact ⟨u, by simpa using h1, h2⟩
theorem HasL.append : ∀ {xs ys : List V} {us ws : List D}, HasL K H xs us → HasL K H ys ws → HasL K H (xs ++ ys) (us ++ ws)
  | _, _, _, _, .nil, s => s
  | _, _, _, _, .cons r t, s => .cons r (t.append s)
theorem HasL.take : ∀ {xs : List V} {us : List D} (n : Nat), HasL K H xs us → HasL K H (xs.take n) (us.take n)
  | _, _, 0, _ => .nil
  | _, _, _ + 1, .nil => .nil
  | _, _, n + 1, .cons r t => .cons r (t.take n)
theorem HasL.drop : ∀ {xs : List V} {us : List D} (n : Nat), HasL K H xs us → HasL K H (xs.drop n) (us.drop n)
  | _, _, 0, r => r
  | _, _, _ + 1, .nil => .nil
  | _, _, n + 1, .cons _ t => t.drop n
theorem HasL.set {x : V} {d : D} (r : Has K H x d) : ∀ {xs : List V} {us : List D} (i : Nat), HasL K H xs us → HasL K H (xs.set i x) (us.set i d)
  | _, _, _, .nil => .nil
  | _, _, 0, .cons _ t => .cons r t
  | _, _, i + 1, .cons q t => .cons q (t.set r i)
end

/-! ### the state of a def -/
/-- what a slot may own: a list, a dict -/
inductive OT where
  | l (ds : List D) | d (kvs : List (Key × D))
inductive Sl where
  | no | val (d : D) | ow (o : OT) | gau | gx (cs : List D) (i r : Int) | lam | scr
abbrev Sl.own (ds : List D) : Sl := .ow (.l ds)
/-- the object of an own tree -/
def OkO (K : PySem.W.Frag) (H0 : Hp) (ho : HO) : OT → Prop
  | .l ds => ∃ vs, ho = .lst vs ∧ vs.length ≤ sizeLine ∧ HasL K H0 vs ds
  | .d us => ∃ kvs : List (Key × V), ho = .dK kvs ∧ kvs.length ≤ sizeLine ∧ kvs.map (·.1) = us.map (·.1) ∧ HasL K H0 (kvs.map (·.2)) (us.map (·.2))
theorem OkO.mono {K : PySem.W.Frag} {H0 H0' : Hp} {ho : HO} {t : OT} (h : OkO K H0 ho t) (s : Same H0 H0') : OkO K H0' ho t := by
  cases t with
  | l ds =>
    obtain ⟨vs, e, z, q⟩ := h
    exact ⟨vs, e, z, q.mono s⟩
  | d us =>
    obtain ⟨kvs, e, z, ek, q⟩ := h
    exact ⟨kvs, e, z, ek, q.mono s⟩
/-- the gauge at g: cells, how many were begun (at most c), what is left -/
def Gau (K : PySem.W.Frag) (H0 H : Hp) (g : Addr) (c : Nat) : Prop :=
  ∃ ca cs i r, H g = some (.lst [.ref ca, .int i, .int r]) ∧ Has K H0 (.ref ca) (.lst cs) ∧ (∀ d ∈ cs, ∃ n, d = D.int n) ∧ 0 ≤ i ∧ i ≤ (c : Int) ∧ 0 ≤ r
/-- what is fixed while a def runs: its gauge, the frozen part it was entered with, the tables of code objects -/
structure Gm where
  g : Option Addr
  gr : Hp
  tb : List (Addr × Str)
  l : Option Addr
/-- no table, no predicate -/
def NoTab (o : HO) : Prop := (∀ ps, o ≠ .tbl ps) ∧ ∀ φ, o ≠ .ext φ
theorem noTab_lst {xs : List V} : NoTab (.lst xs) := ⟨fun _ => HO.noConfusion, fun _ => HO.noConfusion⟩
theorem noTab_dK {xs : List (Key × V)} : NoTab (.dK xs) := ⟨fun _ => HO.noConfusion, fun _ => HO.noConfusion⟩
theorem OkO.noTab {K : PySem.W.Frag} {H0 : Hp} {ho : HO} {t : OT} (h : OkO K H0 ho t) : NoTab ho := by
  cases t with
  | l ds => obtain ⟨_, rfl, _⟩ := h; exact noTab_lst
  | d us => obtain ⟨_, rfl, _⟩ := h; exact noTab_dK
theorem Tabs.upd {T : List (Addr × Str)} {H : Hp} {a : Addr} {o : HO} (t : LamX.Tabs T H) (h : ∀ u, H a = some u → NoTab u) : LamX.Tabs T (upd H a o) := fun p hp => by
  obtain ⟨ps, h1, h2, h3⟩ := t p hp
  refine ⟨ps, by rw [upd_ne (fun (z : p.1 = a) => (h _ (by rw [← z]; exact h1)).1 ps rfl)]; exact h1, h2, fun pos cv hc => ?_⟩
  obtain ⟨c, e1, e2⟩ := h3 pos cv hc
  exact ⟨c, e1, by rw [upd_ne (fun (z : c = a) => (h _ (by rw [← z]; exact e2)).2 _ rfl)]; exact e2⟩
theorem Tabs.new {T : List (Addr × Str)} {H : Hp} {a : Addr} {o : HO} (t : LamX.Tabs T H) (h : H a = none) : LamX.Tabs T (L2.upd H a o) := Tabs.upd t fun u e => by rw [h] at e; cases e
theorem Tabs.neNew {T : List (Addr × Str)} {H : Hp} {a : Addr} (t : LamX.Tabs T H) (h : H a = none) : ∀ p ∈ T, p.1 ≠ a := fun p hp z => by
  obtain ⟨ps, h1, _⟩ := t p hp
  rw [z, h] at h1; cases h1
theorem Tabs.ne {T : List (Addr × Str)} {H : Hp} {a : Addr} {u : HO} (t : LamX.Tabs T H) (h : H a = some u) (n : NoTab u) : ∀ p ∈ T, p.1 ≠ a := fun p hp z => by
  obtain ⟨ps, h1, _⟩ := t p hp
  rw [z, h] at h1; cases h1
  exact n.1 ps rfl
theorem tb0_upd {T : List (Addr × Str)} {H0 F : Hp} {a : Addr} {o : HO} (h : ∀ p ∈ T, H0 p.1 = none ∧ F p.1 = none) (n : ∀ p ∈ T, p.1 ≠ a) : ∀ p ∈ T, L2.upd H0 a o p.1 = none ∧ F p.1 = none := fun p hp => ⟨by rw [upd_ne (n p hp)]; exact (h p hp).1, (h p hp).2⟩
theorem tb0_updF {T : List (Addr × Str)} {H0 F : Hp} {a : Addr} {o : HO} (h : ∀ p ∈ T, H0 p.1 = none ∧ F p.1 = none) (n : ∀ p ∈ T, p.1 ≠ a) : ∀ p ∈ T, H0 p.1 = none ∧ L2.upd F a o p.1 = none := fun p hp => ⟨(h p hp).1, by rw [upd_ne (n p hp)]; exact (h p hp).2⟩
structure Core (K : PySem.W.Frag) (F : Hp) (γ : Gm) (H0 H : Hp) (c : Nat) : Prop where
  sub : Same H0 H
  frm : ∀ b o, F b = some o → H b = some o ∧ H0 b = none
  gau : ∀ g, γ.g = some g → F g = none ∧ H0 g = none ∧ Gau K H0 H g c
  grd : Same γ.gr H0
  tbs : LamX.Tabs γ.tb H
  tb0 : ∀ p ∈ γ.tb, H0 p.1 = none ∧ F p.1 = none
/-- the law's own script -/
def ScrOk (K : PySem.W.Frag) (H0 : Hp) (o : Option V) : Prop := ∃ (a : Addr) (ns : List Int), o = some (.ref a) ∧ SqL K H0 a (ns.map V.int)
theorem ScrOk.mono {K : PySem.W.Frag} {H H' : Hp} {o : Option V} (h : ScrOk K H o) (e : Same H H') : ScrOk K H' o := by
  obtain ⟨a, ns, e1, h⟩ := h
  refine ⟨a, ns, e1, ?_⟩
  rcases h with h | h
  · exact .inl (SameRd e h)
  · exact .inr h
def SlOk (K : PySem.W.Frag) (F : Hp) (γ : Gm) (H0 H : Hp) : Option V → Sl → Prop
  | _, .no => True
  | o, .val d => ∃ v, o = some v ∧ Has K H0 v d
  | o, .ow t => ∃ a ho, o = some (.ref a) ∧ γ.g ≠ some a ∧ F a = none ∧ H0 a = none ∧ H a = some ho ∧ OkO K H0 ho t
  | o, .gau => ∃ g, o = some (.ref g) ∧ γ.g = some g
  | o, .lam => ∃ g, o = some (.ref g) ∧ γ.l = some g
  | o, .scr => ScrOk K H0 o
  | o, .gx cs i r => ∃ g ca, o = some (.ref g) ∧ γ.g = some g ∧ H g = some (.lst [.ref ca, .int i, .int r]) ∧ Has K H0 (.ref ca) (.lst cs)
structure Rep (K : PySem.W.Frag) (F : Hp) (γ : Gm) (H0 H : Hp) (σ : St) (env : List Sl) (c : Nat) : Prop where
  core : Core K F γ H0 H c
  len : σ.length = env.length
  at_ : ∀ (i : Nat) (o : Option V) (sl : Sl), σ[i]? = some o → env[i]? = some sl → SlOk K F γ H0 H o sl
  dis : ∀ (i j : Nat) (a : Addr) (ds es : OT), i ≠ j → σ[i]? = some (some (.ref a)) → env[i]? = some (.ow ds) → σ[j]? = some (some (.ref a)) → env[j]? = some (.ow es) → False

section
variable {K : PySem.W.Frag} {F : Hp} {γ : Gm} {H0 H : Hp} {σ : St} {env : List Sl} {c : Nat} {p : Addr} {o : HO}
theorem Same.upd {H0 H : Hp} (s : Same H0 H) : Same (upd H0 p o) (upd H p o) := fun b u e => by
  by_cases hb : b = p
  · subst hb; rw [upd_same] at e; cases e; exact upd_same
  · rw [upd_ne hb] at e; rw [upd_ne hb]; exact s _ _ e
theorem Same.new {H : Hp} (hp : H p = none) : Same H (L2.upd H p o) := fun b u e => by
  rw [upd_ne (ne_of_none e hp)]; exact e
theorem Gau.mono {H0 H0' H' : Hp} {g : Addr} {c c' : Nat} (G : Gau K H0 H g c) (s : Same H0 H0') (e : H' g = H g) (hc : c ≤ c') : Gau K H0' H' g c' := by
  obtain ⟨ca, cs, i, r, h1, h2, h3, h4, h5, h6⟩ := G
  exact ⟨ca, cs, i, r, by rw [e]; exact h1, h2.mono s, h3, h4, by omega, h6⟩
theorem Core.free (R : Core K F γ H0 H c) (hp : H p = none) : H0 p = none ∧ F p = none ∧ γ.g ≠ some p := by
  refine ⟨R.sub.free hp, ?_, fun e => ?_⟩
  · cases q : F p with
    | none => rfl
    | some o => rw [(R.frm _ _ q).1] at hp; cases hp
  · obtain ⟨_, _, ca, cs, i, r, h1, _⟩ := R.gau p e
    rw [h1] at hp; cases hp
/-- a new object, frozen at once -/
theorem Core.alloc (R : Core K F γ H0 H c) (hp : H p = none) : Core K F γ (upd H0 p o) (upd H p o) c := by
  obtain ⟨f1, f2, f3⟩ := R.free hp
  refine ⟨Same.upd R.sub, fun b u e => ?_, fun g e => ?_, R.grd.trans (Same.new f1), Tabs.new R.tbs hp, tb0_upd R.tb0 (Tabs.neNew R.tbs hp)⟩
  · have nb : b ≠ p := fun q => by rw [q, f2] at e; cases e
    rw [upd_ne nb, upd_ne nb]; exact R.frm _ _ e
  · have nb : g ≠ p := fun q => f3 (by rw [← q]; exact e)
    obtain ⟨a, b, G⟩ := R.gau g e
    exact ⟨a, by rw [upd_ne nb]; exact b, G.mono (Same.new f1) (upd_ne nb) (Nat.le_refl _)⟩
theorem SlOk.alloc (R : Core K F γ H0 H c) (hp : H p = none) {x : Option V} {sl : Sl} (h : SlOk K F γ H0 H x sl) : SlOk K F γ (upd H0 p o) (upd H p o) x sl := by
  obtain ⟨f1, f2, f3⟩ := R.free hp
  cases sl with
  | no => trivial
  | val d => obtain ⟨v, e, q⟩ := h; exact ⟨v, e, q.mono (Same.new f1)⟩
  | ow ds =>
    obtain ⟨a, vs, e, g, fa, h0, ha, q⟩ := h
    have na : a ≠ p := ne_of_none ha hp
    exact ⟨a, vs, e, g, fa, by rw [upd_ne na]; exact h0, by rw [upd_ne na]; exact ha, q.mono (Same.new f1)⟩
  | gau => exact h
  | lam => exact h
  | scr => exact ScrOk.mono h (Same.new f1)
  | gx cs i r =>
    obtain ⟨g, ca, e, eg, hg, q⟩ := h
    exact ⟨g, ca, e, eg, by rw [upd_ne (ne_of_none hg hp)]; exact hg, q.mono (Same.new f1)⟩
theorem Rep.alloc (R : Rep K F γ H0 H σ env c) (hp : H p = none) : Rep K F γ (upd H0 p o) (upd H p o) σ env c :=
  ⟨R.core.alloc hp, R.len, fun i x sl h1 h2 => (R.at_ i x sl h1 h2).alloc R.core hp, R.dis⟩
/-- a value stored in a slot -/
theorem Rep.setVal (R : Rep K F γ H0 H σ env c) {v : V} {d : D} (h : Has K H0 v d) (i : Nat) : Rep K F γ H0 H (σ.set i (some v)) (env.set i (.val d)) c := by
  refine ⟨R.core, by rw [List.length_set, List.length_set]; exact R.len, fun j x sl h1 h2 => ?_, fun j k a ds es n h1 h2 h3 h4 => ?_⟩
  · by_cases hj : i = j
    · subst hj
      rw [List.getElem?_set] at h1 h2
      simp only [if_true] at h1 h2
      split at h1
      · split at h2
        · cases h1; cases h2; exact ⟨v, rfl, h⟩
        · cases h2
      · cases h1
    · rw [List.getElem?_set_ne hj] at h1 h2
      exact R.at_ j x sl h1 h2
  · have nj : i ≠ j := fun q => by
      subst q
      rw [List.getElem?_set] at h2
      simp only [if_true] at h2
      split at h2 <;> cases h2
    have nk : i ≠ k := fun q => by
      subst q
      rw [List.getElem?_set] at h4
      simp only [if_true] at h4
      split at h4 <;> cases h4
    rw [List.getElem?_set_ne nj] at h1 h2
    rw [List.getElem?_set_ne nk] at h3 h4
    exact R.dis j k a ds es n h1 h2 h3 h4
theorem Rep.setNo (R : Rep K F γ H0 H σ env c) {x : Option V} (i : Nat) : Rep K F γ H0 H (σ.set i x) (env.set i .no) c := by
  refine ⟨R.core, by rw [List.length_set, List.length_set]; exact R.len, fun j x sl h1 h2 => ?_, fun j k a ds es n h1 h2 h3 h4 => ?_⟩
  · by_cases hj : i = j
    · subst hj
      rw [List.getElem?_set] at h2
      simp only [if_true] at h2
      split at h2
      · cases h2; trivial
      · cases h2
    · rw [List.getElem?_set_ne hj] at h1 h2
      exact R.at_ j x sl h1 h2
  · have nj : i ≠ j := fun q => by
      subst q
      rw [List.getElem?_set] at h2
      simp only [if_true] at h2
      split at h2 <;> cases h2
    have nk : i ≠ k := fun q => by
      subst q
      rw [List.getElem?_set] at h4
      simp only [if_true] at h4
      split at h4 <;> cases h4
    rw [List.getElem?_set_ne nj] at h1 h2
    rw [List.getElem?_set_ne nk] at h3 h4
    exact R.dis j k a ds es n h1 h2 h3 h4
end
end L2.DL

set_option Elab.async false
set_option linter.all false
set_option autoImplicit false
set_option maxRecDepth 100000
namespace L2.DL
open PySem PySem.Spec PyProof.Rows

abbrev WE := List Sl → Nat → (D → Nat → Prop) → Prop
abbrev WA := List Sl → Nat → (List D → Nat → Prop) → Prop
abbrev WT := List Sl → Nat → (Bool → Nat → Prop) → Prop
structure WEnds where
  nx : List Sl → Nat → Prop
  rt : D → Nat → Prop
  bk : List Sl → Nat → Prop := fun _ _ => False
  ct : List Sl → Nat → Prop := fun _ _ => False
abbrev WS := WEnds → List Sl → Nat → Prop

/-! ### readings over trees -/
def tG (K : PySem.W.Frag) (F : Hp) (γ : Gm) (w : WE) : TE := fun σ H Q => ∃ H0 env c P, Rep K F γ H0 H σ env c ∧ w env c P ∧
  ∀ d c' v H' H0', P d c' → Same H0 H0' → Rep K F γ H0' H' σ env c' → Has K H0' v d → Q v H'
def tA (K : PySem.W.Frag) (F : Hp) (γ : Gm) (w : WA) : TA := fun σ H Q => ∃ H0 env c P, Rep K F γ H0 H σ env c ∧ w env c P ∧
  ∀ ds c' vs H' H0', P ds c' → Same H0 H0' → Rep K F γ H0' H' σ env c' → HasL K H0' vs ds → Q vs H'
def tT (K : PySem.W.Frag) (F : Hp) (γ : Gm) (w : WT) : TT := fun σ H Q => ∃ H0 env c P, Rep K F γ H0 H σ env c ∧ w env c P ∧
  ∀ b c' H' H0', P b c' → Same H0 H0' → Rep K F γ H0' H' σ env c' → Q b H'
def tS (K : PySem.W.Frag) (F : Hp) (γ : Gm) (w : WS) : TS := fun E σ H => ∃ H0 env c D, Rep K F γ H0 H σ env c ∧ w D env c ∧
  (∀ σ' env' c' H' H0', D.nx env' c' → Same H0 H0' → Rep K F γ H0' H' σ' env' c' → E.nx σ' H') ∧
  (∀ d c' v H' H0', D.rt d c' → Same H0 H0' → Core K F γ H0' H' c' → Has K H0' v d → E.rt v H') ∧
  (∀ σ' env' c' H' H0', D.bk env' c' → Same H0 H0' → Rep K F γ H0' H' σ' env' c' → E.bk σ' H') ∧
  (∀ σ' env' c' H' H0', D.ct env' c' → Same H0 H0' → Rep K F γ H0' H' σ' env' c' → E.ct σ' H')

theorem PE.imp {X : Cx} {e : Expr} {t t' : TE} (h : PE X e t) (hi : ∀ σ H Q, t' σ H Q → t σ H Q) : PE X e t' := ⟨fun pins s σ H Q I hw => h.run pins s σ H Q I (hi _ _ _ hw)⟩
theorem PT.imp {X : Cx} {e : Expr} {t t' : TT} (h : PT X e t) (hi : ∀ σ H Q, t' σ H Q → t σ H Q) : PT X e t' := ⟨fun pins s σ H Q I hw => h.run pins s σ H Q I (hi _ _ _ hw)⟩
theorem PA.imp {X : Cx} {e : List Expr} {t t' : TA} (h : PA X e t) (hi : ∀ σ H Q, t' σ H Q → t σ H Q) : PA X e t' := ⟨fun pos pins s σ H Q I hw => h.run pos pins s σ H Q I (hi _ _ _ hw)⟩
theorem PS.imp {X : Cx} {e : Stmt} {t t' : TS} (h : PS X e t) (hi : ∀ σ H Q, t' σ H Q → t σ H Q) : PS X e t' := ⟨fun pins s σ H Q I hw => h.run pins s σ H Q I (hi _ _ _ hw)⟩
theorem PSs.imp {X : Cx} {e : List Stmt} {t t' : TS} (h : PSs X e t) (hi : ∀ σ H Q, t' σ H Q → t σ H Q) : PSs X e t' := ⟨fun pins s σ H Q I hw => h.run pins s σ H Q I (hi _ _ _ hw)⟩

section
variable {X : Cx} {F : Hp} {γ : Gm} {pos : Pos}

/-! ### names, constants -/
def wVar (i : Nat) : WE := fun env c P => ∃ d, env[i]? = some (.val d) ∧ P d c
def wC (d : D) : WE := fun _ c P => P d c
theorem dVar (i : Nat) {x : Str} {pos : Pos} (hN : X.N[i]? = some x := by rfl) (hv : Vis X.env.scope x := by first | exact Or.inl rfl | exact Or.inr (Or.inl rfl) | exact Or.inr (Or.inr rfl)) (hd : (x == ("__debug__" : Str)) = false := by decide)
    (hcd : (x == ("__classdict__" : Str)) = false := by decide) : PE X (.Name x pos) (tG X.K F γ (wVar i)) := PE.imp (pe_var hN hv hd hcd) fun σ H Q h => by
  obtain ⟨H0, env, c, P, R, ⟨d, e, q⟩, k⟩ := h
  have hl := R.len
  obtain ⟨hi, _⟩ := List.getElem?_eq_some_iff.mp e
  have h2 : σ[i]? = some σ[i] := List.getElem?_eq_getElem (by omega)
  obtain ⟨v, e2, hv⟩ := R.at_ i _ _ h2 e
  exact ⟨v, by rw [h2, e2], k d c v H H0 q (Same.refl _) R hv⟩
theorem tC_of {v : V} {d : D} (hd : ∀ (K : PySem.W.Frag) (H : Hp), Has K H v d) {e : Expr} (h : PE X e (tC v)) : PE X e (tG X.K F γ (wC d)) := PE.imp h fun σ H Q h => by
  obtain ⟨H0, env, c, P, R, q, k⟩ := h
  exact k d c v H H0 q (Same.refl _) R (hd _ _)
theorem dInt {i j pos} : PE X (.Constant (.int i) j pos) (tG X.K F γ (wC (.int i))) := tC_of (fun _ _ => .int i) pe_int
theorem dBl {i j pos} : PE X (.Constant (.bool i) j pos) (tG X.K F γ (wC (.bl i))) := tC_of (fun _ _ => .bl i) pe_bl
theorem dNon {j pos} : PE X (.Constant .none j pos) (tG X.K F γ (wC .non)) := tC_of (fun _ _ => .non) pe_non
theorem dStr {x j pos} : PE X (.Constant (.str x) j pos) (tG X.K F γ (wC (.str x))) := tC_of (fun _ _ => .str x) pe_str
/-- a global of the module whose value is data -/
theorem dGlob {x : Str} {v : V} {d : D} {u : Value} {pos : Pos} (hm : X.mg x = some u) (r : RelV v u) (hd : ∀ (K : PySem.W.Frag) (H : Hp), Has K H v d) (hg : Gl X x := by rfl) (hdb : (x == ("__debug__" : Str)) = false := by decide) :
    PE X (.Name x pos) (tG X.K F γ (wC d)) := tC_of hd (pe_glob hg hm r hdb)

/-! ### operators on two values -/
/-- what an operation may count on, and what it gives -/
def Kont (K : PySem.W.Frag) (F : Hp) (γ : Gm) (H0 : Hp) (σ : St) (env : List Sl) (c : Nat) (k : D → Prop) (Q : VK) : Prop :=
  ∀ z u H' H0', k u → Same H0 H0' → Rep K F γ H0' H' σ env c → Has K H0' z u → Q z H'
abbrev D2 := D → D → (D → Prop) → Prop
def Op2 (X : Cx) (F : Hp) (γ : Gm) (fn : Value → Value → Sem Value) (f : D2) : Prop :=
  ∀ (H0 H : Hp) (σ : St) (env : List Sl) (c : Nat) (x y : V) (d e : D) (k : D → Prop) (Q : VK), Rep X.K F γ H0 H σ env c → Has X.K H0 x d → Has X.K H0 y e → f d e k → Kont X.K F γ H0 σ env c k Q → ∃ r, OpR X fn r ∧ r x y H Q
def wBin (f : D2) (a b : WE) : WE := fun env c P => a env c fun x c1 => b env c1 fun y c2 => f x y fun z => P z c2
/-- the reading of two operands in a row -/
theorem two {K : PySem.W.Frag} {wa wb : WE} {f : D2} {σ : St} {H : Hp} {Q : VK} (h : tG K F γ (wBin f wa wb) σ H Q) :
    tG K F γ wa σ H fun x H1 => tG K F γ wb σ H1 fun y H2 => ∃ H0 env c d e k, Rep K F γ H0 H2 σ env c ∧ Has K H0 x d ∧ Has K H0 y e ∧ f d e k ∧ Kont K F γ H0 σ env c k Q := by
  obtain ⟨H0, env, c, P, R, q, k⟩ := h
  refine ⟨H0, env, c, _, R, q, fun d c1 v H1 H01 q1 s1 R1 h1 => ?_⟩
  refine ⟨H01, env, c1, _, R1, q1, fun e c2 u H2 H02 q2 s2 R2 h2 => ?_⟩
  exact ⟨H02, env, c2, d, e, _, R2, h1.mono s2, h2, q2, fun z u' H' H0' ku s3 R3 h3 => k u' c2 z H' H0' ku ((s1.trans s2).trans s3) R3 h3⟩
variable {a b : Expr} {wa wb : WE}
theorem dBin {op : Operator} {f : D2} (ho : Op2 X F γ (binaryOp op) f) (ha : PE X a (tG X.K F γ wa)) (hb : PE X b (tG X.K F γ wb)) : PE X (.BinOp a op b pos) (tG X.K F γ (wBin f wa wb)) := by
  refine ⟨fun pins s σ H Q I h => ?_⟩
  refine wpAny_BinOp (binT ha hb I (two h) fun v u s2 x y H2 I2 rx ry q => ?_)
  obtain ⟨H0, env, c, d, e, k, R, h1, h2, hf, hk⟩ := q
  obtain ⟨r, hr, hq⟩ := ho H0 H2 σ env c x y d e k Q R h1 h2 hf hk
  exact hr pins s2 σ H2 x y v u Q I2 rx ry hq
theorem dCmp {op : CmpOp} {f : D2} (ho : Op2 X F γ (compareOp op) f) (ha : PE X a (tG X.K F γ wa)) (hb : PE X b (tG X.K F γ wb)) (hm : behindInMarks op b = false) : PE X (.Compare a [op] [b] pos) (tG X.K F γ (wBin f wa wb)) := by
  refine ⟨fun pins s σ H Q I h => ?_⟩
  refine wpAny_Compare1 (binT ha hb I (two h) fun v u s2 x y H2 I2 rx ry q => ?_) hm
  obtain ⟨H0, env, c, d, e, k, R, h1, h2, hf, hk⟩ := q
  obtain ⟨r, hr, hq⟩ := ho H0 H2 σ env c x y d e k Q R h1 h2 hf hk
  exact hr pins s2 σ H2 x y v u Q I2 rx ry hq

/-! ### truth -/
def D.tru : D → Bool
  | .non => false | .bl b => b | .int i => i != 0 | .str x => (x.length : Int) != 0 | .lst ds => !ds.isEmpty | .tup ds => !ds.isEmpty | .dic ks _ => !ks.isEmpty | .fn _ => true | .exc _ _ _ => true
def D.truOk : D → Prop
  | .str x => x.length ≤ sizeLine
  | .fn _ => False
  | .exc _ _ _ => False
  | _ => True
theorem Has.tru {K : PySem.W.Frag} {H0 H : Hp} {v : V} {d : D} (h : Has K H0 v d) (s : Same H0 H) (ok : d.truOk) : TruV K v H d.tru := by
  cases h with
  | non => rfl
  | bl b => rfl
  | int i => rfl
  | str x => exact ⟨ok, rfl⟩
  | lst h1 h3 =>
    refine .inl ⟨_, .inl (.inl (s _ _ h1)), ?_⟩
    cases h3 <;> rfl
  | tup h1 h3 =>
    refine .inr (.inl ⟨_, .inl (.inl (s _ _ h1)), ?_⟩)
    cases h3 <;> rfl
  | dic h1 h2 h3 =>
    refine .inr (.inr ⟨_, s _ _ h1, ?_⟩)
    subst h2
    rename_i kvs _
    cases kvs <;> rfl
  | fn h => exact False.elim ok
  | exc h1 h2 h3 h4 h5 => exact False.elim ok
def wTru (w : WE) : WT := fun env c P => w env c fun d c1 => d.truOk ∧ P d.tru c1
theorem Rep.tru {K : PySem.W.Frag} {H0 H : Hp} {σ : St} {env : List Sl} {c : Nat} (R : Rep K F γ H0 H σ env c) {v : V} {d : D} (h : Has K H0 v d) (ok : d.truOk) : TruV K v H d.tru := h.tru R.core.sub ok
theorem dtTru (ha : PE X a (tG X.K F γ wa)) (he : ∀ whole, isTrue a X.env whole = (do let v ← whole; standAt a.pos; holding [v] (truthy v)) := by intro _; rfl) : PT X a (tT X.K F γ (wTru wa)) :=
  PT.imp (pt_truth ha he) fun σ H Q h => by
    obtain ⟨H0, env, c, P, R, q, k⟩ := h
    exact ⟨H0, env, c, _, R, q, fun d c1 v H1 H01 q1 s1 R1 h1 => ⟨_, R1.tru h1 q1.1, k _ _ _ _ q1.2 s1 R1⟩⟩
/-- a comparison as a test -/
def wB (w : WE) : WT := fun env c P => w env c fun d c1 => ∃ b, d = .bl b ∧ P b c1
theorem dtCmp {op : CmpOp} {f : D2} (ho : Op2 X F γ (compareOp op) f) (ha : PE X a (tG X.K F γ wa)) (hb : PE X b (tG X.K F γ wb)) (hm : behindInMarks op b = false) : PT X (.Compare a [op] [b] pos) (tT X.K F γ (wB (wBin f wa wb))) := by
  refine ⟨fun pins s σ H Q I h => ?_⟩
  have h' : tG X.K F γ (wBin f wa wb) σ H (fun z H' => ∃ k, z = .bl k ∧ Q k H') := by
    obtain ⟨H0, env, c, P, R, q, k⟩ := h
    exact ⟨H0, env, c, _, R, q, fun d c1 v H1 H01 ⟨b, e, q1⟩ s1 R1 h1 => by subst e; cases h1; exact ⟨b, rfl, k _ _ _ _ q1 s1 R1⟩⟩
  have h2 := two h'
  refine wpAny_isTrue_Compare1 (thn (ha.run pins s σ H _ I h2) fun v s1 ⟨x, H1, I1, r1, q1⟩ => thn (hb.run pins s1 σ H1 _ I1 q1) fun u s2 ⟨y, H2, I2, r2, q2⟩ => ?_) hm
  obtain ⟨H0, env, c, d, e, k, R, h1, h2, hf, hk⟩ := q2
  obtain ⟨r, hr, hq⟩ := ho H0 H2 σ env c x y d e k _ R h1 h2 hf hk
  refine thn (hr pins s2 σ H2 x y v u _ I2 r1 r2 hq) fun c s3 ⟨z, H3, I3, r3, k, e, q3⟩ => ?_
  subst e
  cases r3
  exact wpAny_truthy_bool ⟨H3, I3, q3⟩
/-- a op1 b op2 c -/
def wChain (f g : D2) (a b e : WE) : WE := fun env c P => a env c fun x c1 => b env c1 fun y c2 => f x y fun t => ∃ k, t = .bl k ∧ if k = true then e env c2 fun z c3 => g y z fun u => P u c3 else P (.bl false) c2
theorem dChain_go {K : PySem.W.Frag} {e : Expr} {we : WE} {f g : D2} {σ : St} {H : Hp} {Q : VK} (h : tG K F γ (wChain f g wa wb we) σ H Q) :
    tG K F γ wa σ H fun x H1 => tG K F γ wb σ H1 fun y H2 => ∃ H0 env c d e k, Rep K F γ H0 H2 σ env c ∧ Has K H0 x d ∧ Has K H0 y e ∧ f d e k ∧
      Kont K F γ H0 σ env c k fun t H3 => ∃ b, t = .bl b ∧ if b = true then tG K F γ we σ H3 fun z H4 => ∃ H0 env c d e k, Rep K F γ H0 H4 σ env c ∧ Has K H0 y d ∧ Has K H0 z e ∧ g d e k ∧ Kont K F γ H0 σ env c k Q else Q (.bl false) H3 := by
  obtain ⟨H0, env, c, P, R, q, k⟩ := h
  refine ⟨H0, env, c, _, R, q, fun d c1 v H1 H01 q1 s1 R1 h1 => ?_⟩
  refine ⟨H01, env, c1, _, R1, q1, fun e c2 u H2 H02 q2 s2 R2 h2 => ?_⟩
  refine ⟨H02, env, c2, d, e, _, R2, h1.mono s2, h2, q2, fun z u' H' H0' ⟨b, e1, ku⟩ s3 R3 h3 => ?_⟩
  subst e1
  cases h3
  refine ⟨b, rfl, ?_⟩
  cases b with
  | false => exact k _ _ _ _ _ ku ((s1.trans s2).trans s3) R3 (.bl false)
  | true =>
    rw [if_pos rfl] at ku ⊢
    refine ⟨H0', env, c2, _, R3, ku, fun d4 c4 v4 H4 H04 q4 s4 R4 h4 => ?_⟩
    exact ⟨H04, env, c4, _, _, _, R4, h2.mono (s3.trans s4), h4, q4, fun z u H' H0' ku s5 R5 h5 => k _ _ _ _ _ ku ((((s1.trans s2).trans s3).trans s4).trans s5) R5 h5⟩
theorem dChain {e : Expr} {we : WE} {op op' : CmpOp} {f g : D2} (ho : Op2 X F γ (compareOp op) f) (ho' : Op2 X F γ (compareOp op') g) (ha : PE X a (tG X.K F γ wa)) (hb : PE X b (tG X.K F γ wb)) (he : PE X e (tG X.K F γ we))
    (hm : lastMarks [op, op'] [b, e] = false := by with_unfolding_all rfl) : PE X (.Compare a [op, op'] [b, e] pos) (tG X.K F γ (wChain f g wa wb we)) := by
  refine ⟨fun pins s σ H Q I h => ?_⟩
  have h := dChain_go (e := e) h
  refine Compare_chain (thn (ha.run pins s σ H _ I h) fun v s1 ⟨x, H1, I1, r1, q1⟩ => chain_link (thn (hb.run pins s1 σ H1 _ I1 q1) fun u s2 ⟨y, H2, I2, r2, q2⟩ => ?_)) hm
  obtain ⟨H0, env, c, d, e', k, R, h1, h2, hf, hk⟩ := q2
  obtain ⟨r, hr, hq⟩ := ho H0 H2 σ env c x y d e' k _ R h1 h2 hf hk
  refine thn (hr pins s2 σ H2 x y v u _ I2 r1 r2 hq) fun d s3 ⟨z, H3, I3, r3, k, e, q3⟩ => ?_
  subst e
  cases r3
  refine wpAny_truthy_bool ?_
  cases k with
  | false => exact ite_ff ⟨.bl false, H3, I3, rfl, q3⟩
  | true =>
    refine ite_tt (chain_last (thn (he.run pins s3 σ H3 _ I3 q3) fun w' s4 ⟨z', H4, I4, r4, q4⟩ => ?_))
    obtain ⟨H0, env, c, d, e', k, R, h1, h2, hf, hk⟩ := q4
    obtain ⟨r, hr, hq⟩ := ho' H0 H4 σ env c y z' d e' k _ R h1 h2 hf hk
    exact hr pins s4 σ H4 y z' u w' Q I4 r2 r4 hq
theorem dtChain {e : Expr} {we : WE} {op op' : CmpOp} {f g : D2} (ho : Op2 X F γ (compareOp op) f) (ho' : Op2 X F γ (compareOp op') g) (ha : PE X a (tG X.K F γ wa)) (hb : PE X b (tG X.K F γ wb)) (he : PE X e (tG X.K F γ we))
    (hm : lastMarks [op, op'] [b, e] = false := by with_unfolding_all rfl) : PT X (.Compare a [op, op'] [b, e] pos) (tT X.K F γ (wB (wChain f g wa wb we))) := by
  refine ⟨fun pins s σ H Q I h => ?_⟩
  have h' : tG X.K F γ (wChain f g wa wb we) σ H (fun z H' => ∃ k, z = .bl k ∧ Q k H') := by
    obtain ⟨H0, env, c, P, R, q, k⟩ := h
    exact ⟨H0, env, c, _, R, q, fun d c1 v H1 H01 ⟨b, e, q1⟩ s1 R1 h1 => by subst e; cases h1; exact ⟨b, rfl, k _ _ _ _ q1 s1 R1⟩⟩
  have h := dChain_go (e := e) h'
  refine isTrue_chain (thn (ha.run pins s σ H _ I h) fun v s1 ⟨x, H1, I1, r1, q1⟩ => test_link (thn (hb.run pins s1 σ H1 _ I1 q1) fun u s2 ⟨y, H2, I2, r2, q2⟩ => ?_)) hm
  obtain ⟨H0, env, c, d, e', k, R, h1, h2, hf, hk⟩ := q2
  obtain ⟨r, hr, hq⟩ := ho H0 H2 σ env c x y d e' k _ R h1 h2 hf hk
  refine thn (hr pins s2 σ H2 x y v u _ I2 r1 r2 hq) fun d s3 ⟨z, H3, I3, r3, k, e, q3⟩ => ?_
  subst e
  cases r3
  refine wpAny_truthy_bool ?_
  cases k with
  | false =>
    obtain ⟨k', e', q'⟩ := q3
    cases e'
    exact ite_ff ⟨H3, I3, q'⟩
  | true =>
    refine ite_tt (test_last (thn (he.run pins s3 σ H3 _ I3 q3) fun w' s4 ⟨z', H4, I4, r4, q4⟩ => ?_))
    obtain ⟨H0, env, c, d, e', k, R, h1, h2, hf, hk⟩ := q4
    obtain ⟨r, hr, hq⟩ := ho' H0 H4 σ env c y z' d e' k _ R h1 h2 hf hk
    refine thn (hr pins s4 σ H4 y z' u w' _ I4 r2 r4 hq) fun d' s5 ⟨z2, H5, I5, r5, k2, e2, q5⟩ => ?_
    subst e2
    cases r5
    exact wpAny_truthy_bool ⟨H5, I5, q5⟩

/-! ### and, or, not, if else -/
def wAnd (a b : WT) : WT := fun env c P => a env c fun k c1 => if k = true then b env c1 P else P false c1
def wOr (a b : WT) : WT := fun env c P => a env c fun k c1 => if k = true then P true c1 else b env c1 P
def wNot (a : WT) : WT := fun env c P => a env c fun k c1 => P (!k) c1
def wAndV (a b : WE) : WE := fun env c P => a env c fun d c1 => d.truOk ∧ if d.tru = true then b env c1 P else P d c1
def wOrV (a b : WE) : WE := fun env c P => a env c fun d c1 => d.truOk ∧ if d.tru = true then P d c1 else b env c1 P
def wNotV (a : WT) : WE := fun env c P => a env c fun k c1 => P (.bl (!k)) c1
def wIf (t : WT) (a b : WE) : WE := fun env c P => t env c fun k c1 => if k = true then a env c1 P else b env c1 P
variable {ta tb : WT} {rest : List Expr}
theorem dwAnd1 (ha : PT X a (tT X.K F γ ta)) : PW X (.BoolOp .And [a] pos) (tT X.K F γ ta) := pw_and1 ha
theorem dwOr1 (ha : PT X a (tT X.K F γ ta)) : PW X (.BoolOp .Or [a] pos) (tT X.K F γ ta) := pw_or1 ha
theorem PW.imp {e : Expr} {t t' : TT} (h : PW X e t) (hi : ∀ σ H Q, t' σ H Q → t σ H Q) : PW X e t' := ⟨fun wh pins s σ H Q I hw => h.run wh pins s σ H Q I (hi _ _ _ hw)⟩
theorem dwAnd (ha : PT X a (tT X.K F γ ta)) (hb : PW X (.BoolOp .And (b :: rest) pos) (tT X.K F γ tb)) : PW X (.BoolOp .And (a :: b :: rest) pos) (tT X.K F γ (wAnd ta tb)) := PW.imp (pw_and ha hb) fun σ H Q h => by
  obtain ⟨H0, env, c, P, R, q, k⟩ := h
  refine ⟨H0, env, c, _, R, q, fun b c1 H1 H01 q1 s1 R1 => ?_⟩
  cases b with
  | true =>
    rw [if_pos rfl] at q1 ⊢
    exact ⟨H01, env, c1, _, R1, q1, fun b c2 H2 H02 q2 s2 R2 => k _ _ _ _ q2 (s1.trans s2) R2⟩
  | false => exact k _ _ _ _ q1 s1 R1
theorem dwOr (ha : PT X a (tT X.K F γ ta)) (hb : PW X (.BoolOp .Or (b :: rest) pos) (tT X.K F γ tb)) : PW X (.BoolOp .Or (a :: b :: rest) pos) (tT X.K F γ (wOr ta tb)) := PW.imp (pw_or ha hb) fun σ H Q h => by
  obtain ⟨H0, env, c, P, R, q, k⟩ := h
  refine ⟨H0, env, c, _, R, q, fun b c1 H1 H01 q1 s1 R1 => ?_⟩
  cases b with
  | false =>
    rw [if_neg Bool.false_ne_true] at q1 ⊢
    exact ⟨H01, env, c1, _, R1, q1, fun b c2 H2 H02 q2 s2 R2 => k _ _ _ _ q2 (s1.trans s2) R2⟩
  | true => exact k _ _ _ _ q1 s1 R1
theorem dtNot (ha : PT X a (tT X.K F γ ta)) : PT X (.UnaryOp .Not a pos) (tT X.K F γ (wNot ta)) := PT.imp (pt_not ha) fun σ H Q h => by
  obtain ⟨H0, env, c, P, R, q, k⟩ := h
  exact ⟨H0, env, c, _, R, q, fun b c1 H1 H01 q1 s1 R1 => k _ _ _ _ q1 s1 R1⟩
theorem dOne {op} {w : WE} (h : PE X a (tG X.K F γ w)) : PE X (.BoolOp op [a] pos) (tG X.K F γ w) := pe_one h
theorem dAnd (ha : PE X a (tG X.K F γ wa)) (hb : PE X (.BoolOp .And (b :: rest) pos) (tG X.K F γ wb)) : PE X (.BoolOp .And (a :: b :: rest) pos) (tG X.K F γ (wAndV wa wb)) := PE.imp (pe_andT ha hb) fun σ H Q h => by
  obtain ⟨H0, env, c, P, R, q, k⟩ := h
  refine ⟨H0, env, c, _, R, q, fun d c1 v H1 H01 ⟨ok, q1⟩ s1 R1 h1 => ⟨d.tru, R1.tru h1 ok, ?_⟩⟩
  cases hd : d.tru with
  | true =>
    rw [hd, if_pos rfl] at q1
    rw [if_pos rfl]
    exact ⟨H01, env, c1, _, R1, q1, fun b c2 v H2 H02 q2 s2 R2 h2 => k _ _ _ _ _ q2 (s1.trans s2) R2 h2⟩
  | false =>
    rw [hd, if_neg Bool.false_ne_true] at q1
    rw [if_neg Bool.false_ne_true]
    exact k _ _ _ _ _ q1 s1 R1 h1
theorem dOr (ha : PE X a (tG X.K F γ wa)) (hb : PE X (.BoolOp .Or (b :: rest) pos) (tG X.K F γ wb)) : PE X (.BoolOp .Or (a :: b :: rest) pos) (tG X.K F γ (wOrV wa wb)) := PE.imp (pe_orT ha hb) fun σ H Q h => by
  obtain ⟨H0, env, c, P, R, q, k⟩ := h
  refine ⟨H0, env, c, _, R, q, fun d c1 v H1 H01 ⟨ok, q1⟩ s1 R1 h1 => ⟨d.tru, R1.tru h1 ok, ?_⟩⟩
  cases hd : d.tru with
  | true =>
    rw [hd, if_pos rfl] at q1
    rw [if_pos rfl]
    exact k _ _ _ _ _ q1 s1 R1 h1
  | false =>
    rw [hd, if_neg Bool.false_ne_true] at q1
    rw [if_neg Bool.false_ne_true]
    exact ⟨H01, env, c1, _, R1, q1, fun b c2 v H2 H02 q2 s2 R2 h2 => k _ _ _ _ _ q2 (s1.trans s2) R2 h2⟩
theorem dNot (ha : PE X a (tG X.K F γ wa)) : PE X (.UnaryOp .Not a pos) (tG X.K F γ (wNotV (wTru wa))) := PE.imp (pe_notT ha) fun σ H Q h => by
  obtain ⟨H0, env, c, P, R, q, k⟩ := h
  exact ⟨H0, env, c, _, R, q, fun d c1 v H1 H01 ⟨ok, q1⟩ s1 R1 h1 => ⟨d.tru, R1.tru h1 ok, k _ _ _ _ _ q1 s1 R1 (.bl _)⟩⟩
theorem dIf {t : Expr} (ht : PT X t (tT X.K F γ ta)) (ha : PE X a (tG X.K F γ wa)) (hb : PE X b (tG X.K F γ wb)) : PE X (.IfExp t a b pos) (tG X.K F γ (wIf ta wa wb)) := PE.imp (pe_ifExp ht ha hb) fun σ H Q h => by
  obtain ⟨H0, env, c, P, R, q, k⟩ := h
  refine ⟨H0, env, c, _, R, q, fun b c1 H1 H01 q1 s1 R1 => ?_⟩
  cases b with
  | true =>
    rw [if_pos rfl] at q1 ⊢
    exact ⟨H01, env, c1, _, R1, q1, fun b c2 v H2 H02 q2 s2 R2 h2 => k _ _ _ _ _ q2 (s1.trans s2) R2 h2⟩
  | false =>
    rw [if_neg Bool.false_ne_true] at q1 ⊢
    exact ⟨H01, env, c1, _, R1, q1, fun b c2 v H2 H02 q2 s2 R2 h2 => k _ _ _ _ _ q2 (s1.trans s2) R2 h2⟩

/-! ### argument lists, displays -/
def wNil : WA := fun _ c P => P [] c
def wCons (a : WE) (r : WA) : WA := fun env c P => a env c fun d c1 => r env c1 fun ds c2 => P (d :: ds) c2
theorem daNil : PA X [] (tA X.K F γ wNil) := PA.imp pa_nil fun σ H Q h => by
  obtain ⟨H0, env, c, P, R, q, k⟩ := h
  exact k [] c [] H H0 q (Same.refl _) R .nil
variable {es : List Expr} {wr : WA}
theorem daCons (ha : PE X a (tG X.K F γ wa)) (hr : PA X es (tA X.K F γ wr)) (hs : starEach (a :: es) X.env = (false, eval a X.env) :: starEach es X.env := by rfl) : PA X (a :: es) (tA X.K F γ (wCons wa wr)) := PA.imp (pa_cons ha hr hs) fun σ H Q h => by
  obtain ⟨H0, env, c, P, R, q, k⟩ := h
  exact ⟨H0, env, c, _, R, q, fun d c1 v H1 H01 q1 s1 R1 h1 => ⟨H01, env, c1, _, R1, q1, fun ds c2 vs H2 H02 q2 s2 R2 h2 => k _ _ _ _ _ q2 (s1.trans s2) R2 (.cons (h1.mono s2) h2)⟩⟩
def wTup (a : WA) : WE := fun env c P => a env c fun ds c1 => ds.length ≤ sizeLine ∧ P (.tup ds) c1
def wLst (a : WA) : WE := fun env c P => a env c fun ds c1 => ds.length ≤ sizeLine ∧ P (.lst ds) c1
theorem dTup {k : Nat} (ha : PA X es (tA X.K F γ wr)) : PE X (.Tuple es k pos) (tG X.K F γ (wTup wr)) := PE.imp (pe_tup ha) fun σ H Q h => by
  obtain ⟨H0, env, c, P, R, q, k⟩ := h
  exact ⟨H0, env, c, _, R, q, fun ds c1 vs H1 H01 q1 s1 R1 h1 => ⟨by rw [h1.length]; exact q1.1, fun p hp =>
    k _ _ _ _ (upd H01 p (.tup vs)) q1.2 (s1.trans (Same.new (R1.core.sub.free hp))) (R1.alloc hp) (.tup upd_same (h1.mono (Same.new (R1.core.sub.free hp))))⟩⟩
theorem dLst (ha : PA X es (tA X.K F γ wr)) : PE X (.List es pos) (tG X.K F γ (wLst wr)) := PE.imp (pe_lst ha) fun σ H Q h => by
  obtain ⟨H0, env, c, P, R, q, k⟩ := h
  exact ⟨H0, env, c, _, R, q, fun ds c1 vs H1 H01 q1 s1 R1 h1 => ⟨by rw [h1.length]; exact q1.1, fun p hp =>
    k _ _ _ _ (upd H01 p (.lst vs)) q1.2 (s1.trans (Same.new (R1.core.sub.free hp))) (R1.alloc hp) (.lst upd_same (h1.mono (Same.new (R1.core.sub.free hp))))⟩⟩
end
end L2.DL

set_option Elab.async false
set_option linter.all false
set_option autoImplicit false
set_option maxRecDepth 100000
namespace L2.DL
open PySem PySem.Spec PyProof.Rows

/-! ### slots that own a list -/
/-- a list at a that nothing else stands for -/
structure Own (K : PySem.W.Frag) (F : Hp) (γ : Gm) (H0 H : Hp) (σ : St) (env : List Sl) (a : Addr) (t : OT) : Prop where
  g : γ.g ≠ some a
  f : F a = none
  z : H0 a = none
  h : ∃ ho, H a = some ho ∧ OkO K H0 ho t
  apart : ∀ (i : Nat) (es : OT), σ[i]? = some (some (.ref a)) → env[i]? = some (.ow es) → False
section
variable {K : PySem.W.Frag} {F : Hp} {γ : Gm} {H0 H : Hp} {σ : St} {env : List Sl} {c : Nat} {p : Addr} {o : HO}
theorem Core.allocOwn (R : Core K F γ H0 H c) (hp : H p = none) : Core K F γ H0 (upd H p o) c := by
  obtain ⟨f1, f2, f3⟩ := R.free hp
  refine ⟨R.sub.trans (Same.new hp), fun b u e => ?_, fun g e => ?_, R.grd, Tabs.new R.tbs hp, R.tb0⟩
  · have nb : b ≠ p := fun q => by rw [q, f2] at e; cases e
    rw [upd_ne nb]; exact R.frm _ _ e
  · have nb : g ≠ p := fun q => f3 (by rw [← q]; exact e)
    obtain ⟨a, b, G⟩ := R.gau g e
    exact ⟨a, b, G.mono (Same.refl _) (upd_ne nb) (Nat.le_refl _)⟩
theorem Rep.allocOwn (R : Rep K F γ H0 H σ env c) (hp : H p = none) : Rep K F γ H0 (upd H p o) σ env c := by
  refine ⟨R.core.allocOwn hp, R.len, fun i x sl h1 h2 => ?_, R.dis⟩
  have q := R.at_ i x sl h1 h2
  cases sl with
  | no => trivial
  | val d => exact q
  | ow ds =>
    obtain ⟨a, vs, e, g, fa, h0, ha, q⟩ := q
    exact ⟨a, vs, e, g, fa, h0, by rw [upd_ne (ne_of_none ha hp)]; exact ha, q⟩
  | gau => exact q
  | lam => exact q
  | scr => first | exact q | exact ScrOk.mono q (by assumption) | exact ScrOk.mono q (Same.new (by assumption)) | exact ScrOk.mono q (Same.new O.z)
  | gx cs i r =>
    obtain ⟨g, ca, e, eg, hg, q⟩ := q
    exact ⟨g, ca, e, eg, by rw [upd_ne (ne_of_none hg hp)]; exact hg, q⟩
theorem Rep.ownNew (R : Rep K F γ H0 H σ env c) (hp : H p = none) {vs : List V} {ds : List D} (hl : vs.length ≤ sizeLine) (h : HasL K H0 vs ds) : Own K F γ H0 (upd H p (.lst vs)) σ env p (.l ds) := by
  obtain ⟨f1, f2, f3⟩ := R.core.free hp
  refine ⟨f3, f2, f1, ⟨_, upd_same, vs, rfl, hl, h⟩, fun i es h1 h2 => ?_⟩
  obtain ⟨a, us, e, _, _, _, ha, _⟩ := R.at_ i _ _ h1 h2
  cases e
  rw [hp] at ha; cases ha
theorem Rep.ownNewD (R : Rep K F γ H0 H σ env c) (hp : H p = none) : Own K F γ H0 (upd H p (.dK [])) σ env p (.d []) := by
  obtain ⟨f1, f2, f3⟩ := R.core.free hp
  refine ⟨f3, f2, f1, ⟨_, upd_same, [], rfl, Nat.zero_le _, rfl, .nil⟩, fun i es h1 h2 => ?_⟩
  obtain ⟨a, us, e, _, _, _, ha, _⟩ := R.at_ i _ _ h1 h2
  cases e
  rw [hp] at ha; cases ha
theorem set_get {α : Type} {l : List α} {i j : Nat} {x y : α} (h : (l.set i x)[j]? = some y) : (i = j ∧ x = y) ∨ (i ≠ j ∧ l[j]? = some y) := by
  by_cases hj : i = j
  · subst hj
    rw [List.getElem?_set] at h
    simp only [if_true] at h
    split at h
    · exact .inl ⟨rfl, by cases h; rfl⟩
    · cases h
  · rw [List.getElem?_set_ne hj] at h
    exact .inr ⟨hj, h⟩
theorem Rep.setOwn (R : Rep K F γ H0 H σ env c) {a : Addr} {t : OT} (O : Own K F γ H0 H σ env a t) (i : Nat) : Rep K F γ H0 H (σ.set i (some (.ref a))) (env.set i (.ow t)) c := by
  obtain ⟨ho, hv, hl⟩ := O.h
  refine ⟨R.core, by rw [List.length_set, List.length_set]; exact R.len, fun j x sl h1 h2 => ?_, fun j k b ds es n h1 h2 h3 h4 => ?_⟩
  · rcases set_get h1 with ⟨e1, e2⟩ | ⟨e1, e2⟩
    · rcases set_get h2 with ⟨e3, e4⟩ | ⟨e3, e4⟩
      · subst e2 e4
        exact ⟨a, ho, rfl, O.g, O.f, O.z, hv, hl⟩
      · exact absurd e1 e3
    · rcases set_get h2 with ⟨e3, e4⟩ | ⟨e3, e4⟩
      · exact absurd e3 e1
      · exact R.at_ j x sl e2 e4
  · rcases set_get h1 with ⟨e1, e2⟩ | ⟨e1, e2⟩
    · cases e2
      rcases set_get h3 with ⟨e3, e4⟩ | ⟨e3, e4⟩
      · exact n (e1.symm.trans e3)
      · rcases set_get h4 with ⟨e5, e6⟩ | ⟨e5, e6⟩
        · exact e3 e5
        · exact O.apart k es e4 e6
    · rcases set_get h2 with ⟨e3, e4⟩ | ⟨e3, e4⟩
      · exact e1 e3
      · rcases set_get h3 with ⟨e5, e6⟩ | ⟨e5, e6⟩
        · cases e6
          exact O.apart j _ e2 e4
        · rcases set_get h4 with ⟨e7, e8⟩ | ⟨e7, e8⟩
          · exact e5 e7
          · exact R.dis j k b ds es n e2 e4 e6 e8
/-- the list of slot i changes -/
theorem Rep.writeOwn (R : Rep K F γ H0 H σ env c) {i : Nat} {a : Addr} {ds es : List D} {us : List V} (hs : σ[i]? = some (some (.ref a))) (he : env[i]? = some (.own ds)) (hz : us.length ≤ sizeLine) (hl : HasL K H0 us es) :
    Rep K F γ H0 (upd H a (.lst us)) σ (env.set i (.own es)) c := by
  obtain ⟨a', vs, e, g, fa, h0, ha, hk0⟩ := R.at_ i _ _ hs he
  cases e
  refine ⟨⟨fun b o e => ?_, fun b o e => ?_, fun g' e => ?_, R.core.grd, Tabs.upd R.core.tbs fun u eu => by rw [ha] at eu; cases eu; exact hk0.noTab, R.core.tb0⟩, by rw [List.length_set]; exact R.len, fun j x sl h1 h2 => ?_, fun j k b ds' es' n h1 h2 h3 h4 => ?_⟩
  · rw [upd_ne (ne_of_none e h0)]; exact R.core.sub _ _ e
  · rw [upd_ne (ne_of_none e fa)]; exact R.core.frm _ _ e
  · obtain ⟨x, y, G⟩ := R.core.gau g' e
    have n : g' ≠ a := fun q => g (by rw [← q]; exact e)
    exact ⟨x, y, G.mono (Same.refl _) (upd_ne n) (Nat.le_refl _)⟩
  · rcases set_get h2 with ⟨e1, e2⟩ | ⟨e1, e2⟩
    · subst e1 e2
      rw [hs] at h1; cases h1
      exact ⟨a, _, rfl, g, fa, h0, upd_same, us, rfl, hz, hl⟩
    · have q := R.at_ j x sl h1 e2
      cases sl with
      | no => trivial
      | val d => exact q
      | ow fs =>
        obtain ⟨b, ws, e, g2, f2, z2, h2', l2⟩ := q
        subst e
        have nb : b ≠ a := fun q => R.dis i j a _ fs e1 hs he (by rw [← q]; exact h1) e2
        exact ⟨b, ws, rfl, g2, f2, z2, by rw [upd_ne nb]; exact h2', l2⟩
      | gau => exact q
      | lam => exact q
      | scr => first | exact q | exact ScrOk.mono q (by assumption) | exact ScrOk.mono q (Same.new (by assumption)) | exact ScrOk.mono q (Same.new O.z)
      | gx cs i' r =>
        obtain ⟨b, ca, e, eg, hg, q⟩ := q
        have nb : b ≠ a := fun z => g (by rw [← z]; exact eg)
        exact ⟨b, ca, e, eg, by rw [upd_ne nb]; exact hg, q⟩
  · rcases set_get h2 with ⟨e1, e2⟩ | ⟨e1, e2⟩
    · rcases set_get h4 with ⟨e3, e4⟩ | ⟨e3, e4⟩
      · exact n (e1.symm.trans e3)
      · subst e1
        exact R.dis i k b _ es' n h1 he h3 e4
    · rcases set_get h4 with ⟨e3, e4⟩ | ⟨e3, e4⟩
      · subst e3
        exact R.dis j i b ds' _ n h1 e2 h3 he
      · exact R.dis j k b ds' es' n h1 e2 h3 e4
/-- the list of slot i is changed no more -/
theorem Rep.freeze (R : Rep K F γ H0 H σ env c) {i : Nat} {ds : List D} (he : env[i]? = some (.own ds)) : ∃ H0', Same H0 H0' ∧ Rep K F γ H0' H σ (env.set i (.val (.lst ds))) c := by
  have hl := R.len
  obtain ⟨hi, _⟩ := List.getElem?_eq_some_iff.mp he
  have h2 : σ[i]? = some σ[i] := List.getElem?_eq_getElem (by omega)
  obtain ⟨a, _, e, g, fa, h0, ha, vs, rfl, hz, hv⟩ := R.at_ i _ _ h2 he
  have hs : σ[i]? = some (some (.ref a)) := by rw [h2, e]
  refine ⟨upd H0 a (.lst vs), Same.new h0, ⟨fun b o q => ?_, fun b o q => ?_, fun g' q => ?_, R.core.grd.trans (Same.new h0), R.core.tbs, tb0_upd R.core.tb0 (Tabs.ne R.core.tbs ha noTab_lst)⟩, by rw [List.length_set]; exact R.len, fun j x sl h1 h3 => ?_, fun j k b ds' es' n h1 h2 h3 h4 => ?_⟩
  · by_cases hb : b = a
    · subst hb; rw [upd_same] at q; cases q; exact ha
    · rw [upd_ne hb] at q; exact R.core.sub _ _ q
  · obtain ⟨x, y⟩ := R.core.frm _ _ q
    exact ⟨x, by rw [upd_ne (ne_of_none q fa)]; exact y⟩
  · obtain ⟨x, y, G⟩ := R.core.gau g' q
    have n : g' ≠ a := fun r => g (by rw [← r]; exact q)
    exact ⟨x, by rw [upd_ne n]; exact y, G.mono (Same.new h0) rfl (Nat.le_refl _)⟩
  · rcases set_get h3 with ⟨e1, e2⟩ | ⟨e1, e2⟩
    · subst e1 e2
      rw [hs] at h1; cases h1
      exact ⟨_, rfl, .lst upd_same (hv.mono (Same.new h0))⟩
    · have q := R.at_ j x sl h1 e2
      cases sl with
      | no => trivial
      | val d => obtain ⟨v, e, q⟩ := q; exact ⟨v, e, q.mono (Same.new h0)⟩
      | ow fs =>
        obtain ⟨b, ws, e, g2, f2, z2, h2', l2⟩ := q
        subst e
        have nb : b ≠ a := fun q => R.dis i j a _ fs e1 hs he (by rw [← q]; exact h1) e2
        exact ⟨b, ws, rfl, g2, f2, by rw [upd_ne nb]; exact z2, h2', l2.mono (Same.new h0)⟩
      | gau => exact q
      | lam => exact q
      | scr => first | exact q | exact ScrOk.mono q (by assumption) | exact ScrOk.mono q (Same.new (by assumption)) | exact ScrOk.mono q (Same.new O.z)
      | gx cs i' r =>
        obtain ⟨b, ca, e, eg, hg, q⟩ := q
        exact ⟨b, ca, e, eg, hg, q.mono (Same.new h0)⟩
  · rcases set_get h2 with ⟨e1, e2⟩ | ⟨e1, e2⟩
    · cases e2
    · rcases set_get h4 with ⟨e3, e4⟩ | ⟨e3, e4⟩
      · cases e4
      · exact R.dis j k b ds' es' n h1 e2 h3 e4
end

/-! ### statements -/
section
variable {X : Cx} {F : Hp} {γ : Gm} {pos : Pos}
def wNext : WS := fun E env c => E.nx env c
def wSeq (a b : WS) : WS := fun E env c => a { E with nx := fun env' c' => b E env' c' } env c
def wPass : WS := fun E env c => E.nx env c
def wBrk : WS := fun E env c => E.bk env c
def wCnt : WS := fun E env c => E.ct env c
def wSet (i : Nat) (w : WE) : WS := fun E env c => w env c fun d c1 => E.nx (env.set i (.val d)) c1
def wRet (w : WE) : WS := fun E env c => w env c E.rt
def wRetN : WS := fun E _ c => E.rt .non c
def wDrop (w : WE) : WS := fun E env c => w env c fun _ c1 => E.nx env c1
def wIfS (t : WT) (a b : WS) : WS := fun E env c => t env c fun k c1 => if k = true then a E env c1 else b E env c1
def wFrz (i : Nat) (w : WS) : WS := fun E env c => ∃ ds, env[i]? = some (.own ds) ∧ w E (env.set i (.val (.lst ds))) c
def wNever : WS := fun _ _ _ => False

variable {e : Expr} {we : WE} {st : Stmt} {rest : List Stmt} {w u : WS}
theorem dssOne (h : PS X st (tS X.K F γ w)) : PSs X [st] (tS X.K F γ w) := pss_one h
theorem dssNil : PSs X [] (tS X.K F γ wNext) := PSs.imp pss_nil fun E σ H h => by
  obtain ⟨H0, env, c, D, R, q, k1, k2, k3, k4⟩ := h
  exact k1 _ _ _ _ _ q (Same.refl _) R
theorem dssCons (h1 : PS X st (tS X.K F γ w)) (h2 : PSs X rest (tS X.K F γ u)) : PSs X (st :: rest) (tS X.K F γ (wSeq w u)) := PSs.imp (pss_cons h1 h2) fun E σ H h => by
  obtain ⟨H0, env, c, D, R, q, k1, k2, k3, k4⟩ := h
  refine ⟨H0, env, c, _, R, q, fun σ' env' c' H' H0' q1 s1 R1 => ?_, k2, k3, k4⟩
  exact ⟨H0', env', c', D, R1, q1, fun _ _ _ _ _ q2 s2 R2 => k1 _ _ _ _ _ q2 (s1.trans s2) R2, fun _ _ _ _ _ q2 s2 R2 => k2 _ _ _ _ _ q2 (s1.trans s2) R2, fun _ _ _ _ _ q2 s2 R2 => k3 _ _ _ _ _ q2 (s1.trans s2) R2, fun _ _ _ _ _ q2 s2 R2 => k4 _ _ _ _ _ q2 (s1.trans s2) R2⟩
theorem dssFrz (i : Nat) (h : PSs X rest (tS X.K F γ w)) : PSs X rest (tS X.K F γ (wFrz i w)) := PSs.imp h fun E σ H h => by
  obtain ⟨H0, env, c, D, R, ⟨ds, he, q⟩, k1, k2, k3, k4⟩ := h
  obtain ⟨H0', s1, R1⟩ := R.freeze he
  exact ⟨H0', _, c, D, R1, q, fun _ _ _ _ _ q2 s2 R2 => k1 _ _ _ _ _ q2 (s1.trans s2) R2, fun _ _ _ _ _ q2 s2 R2 => k2 _ _ _ _ _ q2 (s1.trans s2) R2, fun _ _ _ _ _ q2 s2 R2 => k3 _ _ _ _ _ q2 (s1.trans s2) R2, fun _ _ _ _ _ q2 s2 R2 => k4 _ _ _ _ _ q2 (s1.trans s2) R2⟩
theorem dsNever : PS X st (tS X.K F γ wNever) := PS.imp ps_never fun E σ H h => by
  obtain ⟨H0, env, c, D, R, q, _⟩ := h
  exact q
theorem dssNever {sts : List Stmt} : PSs X sts (tS X.K F γ wNever) := PSs.imp pss_never fun E σ H h => by
  obtain ⟨H0, env, c, D, R, q, _⟩ := h
  exact q
theorem dsPass : PS X (.Pass pos) (tS X.K F γ wPass) := PS.imp ps_pass fun E σ H h => by
  obtain ⟨H0, env, c, D, R, q, k1, k2, k3, k4⟩ := h
  exact k1 _ _ _ _ _ q (Same.refl _) R
theorem dsBrk : PS X (.Break pos) (tS X.K F γ wBrk) := PS.imp ps_break fun E σ H h => by
  obtain ⟨H0, env, c, D, R, q, k1, k2, k3, k4⟩ := h
  exact k3 _ _ _ _ _ q (Same.refl _) R
theorem dsCnt : PS X (.Continue pos) (tS X.K F γ wCnt) := PS.imp ps_continue fun E σ H h => by
  obtain ⟨H0, env, c, D, R, q, k1, k2, k3, k4⟩ := h
  exact k4 _ _ _ _ _ q (Same.refl _) R
theorem dsRet (h : PE X e (tG X.K F γ we)) : PS X (.Return (some e) pos) (tS X.K F γ (wRet we)) := PS.imp (ps_ret h) fun E σ H h => by
  obtain ⟨H0, env, c, D, R, q, k1, k2, k3, k4⟩ := h
  exact ⟨H0, env, c, _, R, q, fun d c1 v H1 H01 q1 s1 R1 h1 => k2 _ _ _ _ _ q1 s1 R1.core h1⟩
theorem dsRetN : PS X (.Return none pos) (tS X.K F γ wRetN) := PS.imp ps_retN fun E σ H h => by
  obtain ⟨H0, env, c, D, R, q, k1, k2, k3, k4⟩ := h
  exact k2 _ _ _ _ _ q (Same.refl _) R.core .non
theorem dsDrop (h : PE X e (tG X.K F γ we)) (hs : swapsWith e none pos.line X.env = pure false := by rfl) : PS X (.Expr e pos) (tS X.K F γ (wDrop we)) := PS.imp (ps_expr h hs) fun E σ H h => by
  obtain ⟨H0, env, c, D, R, q, k1, k2, k3, k4⟩ := h
  exact ⟨H0, env, c, _, R, q, fun d c1 v H1 H01 q1 s1 R1 h1 => k1 _ _ _ _ _ q1 s1 R1⟩
theorem dsSet (i : Nat) {x : Str} {pos' : Pos} (h : PE X e (tG X.K F γ we)) (hN : X.N.Nodup) (hi : X.N[i]? = some x := by rfl) (hx : Loc X.env.scope x := by first | exact Or.inl rfl | exact Or.inr rfl) (hs : swapsWith e (some (.Name x pos')) pos.line X.env = pure false := by rfl)
    (hf : X.fn x = true ∨ X.env.scope.names.lookup x = some .local := by first | exact .inl rfl | exact .inr rfl | assumption) : PS X (.Assign [.Name x pos'] e pos) (tS X.K F γ (wSet i we)) := PS.imp (ps_set hN hi hx h hs hf) fun E σ H h => by
  obtain ⟨H0, env, c, D, R, q, k1, k2, k3, k4⟩ := h
  exact ⟨H0, env, c, _, R, q, fun d c1 v H1 H01 q1 s1 R1 h1 => k1 _ _ _ _ _ q1 s1 (R1.setVal h1 i)⟩
theorem dsIf {t : Expr} {wt : WT} {a b : List Stmt} (ht : PT X t (tT X.K F γ wt)) (ha : PSs X a (tS X.K F γ w)) (hb : PSs X b (tS X.K F γ u)) : PS X (.If t a b pos) (tS X.K F γ (wIfS wt w u)) := PS.imp (ps_if ht ha hb) fun E σ H h => by
  obtain ⟨H0, env, c, D, R, q, k1, k2, k3, k4⟩ := h
  refine ⟨H0, env, c, _, R, q, fun b c1 H1 H01 q1 s1 R1 => ?_⟩
  cases b with
  | true =>
    rw [if_pos rfl] at q1 ⊢
    exact ⟨H01, env, c1, D, R1, q1, fun _ _ _ _ _ q2 s2 R2 => k1 _ _ _ _ _ q2 (s1.trans s2) R2, fun _ _ _ _ _ q2 s2 R2 => k2 _ _ _ _ _ q2 (s1.trans s2) R2, fun _ _ _ _ _ q2 s2 R2 => k3 _ _ _ _ _ q2 (s1.trans s2) R2, fun _ _ _ _ _ q2 s2 R2 => k4 _ _ _ _ _ q2 (s1.trans s2) R2⟩
  | false =>
    rw [if_neg Bool.false_ne_true] at q1 ⊢
    exact ⟨H01, env, c1, D, R1, q1, fun _ _ _ _ _ q2 s2 R2 => k1 _ _ _ _ _ q2 (s1.trans s2) R2, fun _ _ _ _ _ q2 s2 R2 => k2 _ _ _ _ _ q2 (s1.trans s2) R2, fun _ _ _ _ _ q2 s2 R2 => k3 _ _ _ _ _ q2 (s1.trans s2) R2, fun _ _ _ _ _ q2 s2 R2 => k4 _ _ _ _ _ q2 (s1.trans s2) R2⟩
/-- a, b = x, y and a, b, c = x, y, z with plain local names -/
def wPar (i j : Nat) (w : WA) : WS := fun E env c => w env c fun ds c1 => ∃ x y, ds = [x, y] ∧ E.nx ((env.set i (.val x)).set j (.val y)) c1
def wPar3 (i j l : Nat) (w : WA) : WS := fun E env c => w env c fun ds c1 => ∃ x y z, ds = [x, y, z] ∧ E.nx (((env.set i (.val x)).set j (.val y)).set l (.val z)) c1
theorem HasL.inv2 {K : PySem.W.Frag} {H : Hp} {vs : List V} {x y : D} (h : HasL K H vs [x, y]) : ∃ a b, vs = [a, b] ∧ Has K H a x ∧ Has K H b y := by
  cases h with
  | cons h1 h2 =>
    cases h2 with
    | cons h2 h3 =>
      cases h3
      exact ⟨_, _, rfl, h1, h2⟩
theorem HasL.inv3 {K : PySem.W.Frag} {H : Hp} {vs : List V} {x y z : D} (h : HasL K H vs [x, y, z]) : ∃ a b c, vs = [a, b, c] ∧ Has K H a x ∧ Has K H b y ∧ Has K H c z := by
  cases h with
  | cons h1 h2 =>
    cases h2 with
    | cons h2 h3 =>
      cases h3 with
      | cons h3 h4 =>
        cases h4
        exact ⟨_, _, _, rfl, h1, h2, h3⟩
theorem dsPar (i j : Nat) {x y : Str} {a b : Expr} {wa : WA} {px py pt : Pos} {kt k2 pt2} (ha : PA X [a, b] (tA X.K F γ wa)) (hN : X.N.Nodup) (hw : swappedStores [.Tuple [.Name x px, .Name y py] kt pt] (.Tuple [a, b] k2 pt2) X.env = pure (some [x, y]) := by rfl)
    (hc : X.calm = true := by rfl) (hi : X.N[i]? = some x := by rfl) (hj : X.N[j]? = some y := by rfl) (hij : i ≠ j := by decide)
    (hx : X.env.scope.names.lookup x = some .local := by rfl) (hy : X.env.scope.names.lookup y = some .local := by rfl)
    (hs : swapsWithSole [.Tuple [.Name x px, .Name y py] kt pt] (.Tuple [a, b] k2 pt2) pos.line X.env = pure false := by rfl) :
    PS X (.Assign [.Tuple [.Name x px, .Name y py] kt pt] (.Tuple [a, b] k2 pt2) pos) (tS X.K F γ (wPar i j wa)) := PS.imp (ps_par hc hN hi hj hij hx hy ha hw hs) fun E σ H h => by
  obtain ⟨H0, env, c, D, R, q, k1, k2, k3, k4⟩ := h
  refine ⟨H0, env, c, _, R, q, fun d c1 v H1 H01 ⟨x, y, e, q1⟩ s1 R1 h1 => ?_⟩
  subst e
  obtain ⟨a, b, rfl, h2, h3⟩ := h1.inv2
  exact ⟨a, b, rfl, k1 _ _ _ _ _ q1 s1 ((R1.setVal h2 i).setVal h3 j)⟩
theorem dsPar3 (i j l : Nat) {x y z : Str} {a b e : Expr} {wa : WA} {px py pz pt : Pos} {kt k2 pt2} (ha : PA X [a, b, e] (tA X.K F γ wa)) (hN : X.N.Nodup) (hw : swappedStores [.Tuple [.Name x px, .Name y py, .Name z pz] kt pt] (.Tuple [a, b, e] k2 pt2) X.env = pure (some [x, y, z]) := by rfl)
    (hc : X.calm = true := by rfl) (hi : X.N[i]? = some x := by rfl) (hj : X.N[j]? = some y := by rfl) (hl : X.N[l]? = some z := by rfl) (hij : i ≠ j := by decide) (hil : i ≠ l := by decide) (hjl : j ≠ l := by decide)
    (hx : X.env.scope.names.lookup x = some .local := by rfl) (hy : X.env.scope.names.lookup y = some .local := by rfl) (hz : X.env.scope.names.lookup z = some .local := by rfl)
    (hs : swapsWithSole [.Tuple [.Name x px, .Name y py, .Name z pz] kt pt] (.Tuple [a, b, e] k2 pt2) pos.line X.env = pure false := by rfl) :
    PS X (.Assign [.Tuple [.Name x px, .Name y py, .Name z pz] kt pt] (.Tuple [a, b, e] k2 pt2) pos) (tS X.K F γ (wPar3 i j l wa)) := PS.imp (ps_par3 hc hN hi hj hl hij hil hjl hx hy hz ha hw hs) fun E σ H h => by
  obtain ⟨H0, env, c, D, R, q, k1, k2, k3, k4⟩ := h
  refine ⟨H0, env, c, _, R, q, fun d c1 v H1 H01 ⟨x, y, z, e, q1⟩ s1 R1 h1 => ?_⟩
  subst e
  obtain ⟨a, b, c, rfl, h2, h3, h4⟩ := h1.inv3
  exact ⟨a, b, c, rfl, k1 _ _ _ _ _ q1 s1 (((R1.setVal h2 i).setVal h3 j).setVal h4 l)⟩

/-! ### targets -/
def wipeE (env : List Sl) : List Nat → List Sl
  | [] => env
  | v :: vs => (wipeE env vs).set v .no
theorem wipeE_length (env : List Sl) : ∀ vs : List Nat, (wipeE env vs).length = env.length
  | [] => rfl
  | v :: vs => by unfold wipeE; rw [List.length_set, wipeE_length env vs]
theorem wipeE_get (σ : List Sl) (j : Nat) : ∀ vs : List Nat, (wipeE σ vs)[j]? = if j ∈ vs then σ[j]?.map (fun _ => .no) else σ[j]?
  | [] => by simp [wipeE]
  | v :: vs => by
    unfold wipeE
    rw [List.getElem?_set, wipeE_get σ j vs, wipeE_length]
    by_cases h : v = j
    · subst h
      by_cases hl : v < σ.length
      · simp [hl]
      · simp [hl]
    · rw [if_neg h]
      have : (j ∈ v :: vs) ↔ j ∈ vs := by simp [Ne.symm h]
      simp only [this]
theorem wipeE_set (σ : List Sl) (i : Nat) (x : Sl) (vs : List Nat) (h : i ∈ vs) : wipeE (σ.set i x) vs = wipeE σ vs := by
  apply List.ext_getElem?
  intro j
  rw [wipeE_get, wipeE_get]
  by_cases hj : i = j
  · subst hj
    rw [if_pos h, if_pos h, List.getElem?_set]
    by_cases hl : i < σ.length
    · simp [hl]
    · simp [hl]
  · rw [List.getElem?_set_ne hj]
theorem wipeE_idem (σ : List Sl) (vs : List Nat) : wipeE (wipeE σ vs) vs = wipeE σ vs := by
  apply List.ext_getElem?
  intro j
  rw [wipeE_get, wipeE_get]
  split
  · rw [Option.map_map]; rfl
  · rfl
abbrev WG := D → List Sl → (List Sl → Prop) → Prop
abbrev WGs := List D → List Sl → (List Sl → Prop) → Prop
theorem wipe_get (σ : St) (j : Nat) : ∀ vs : List Nat, (wipe σ vs)[j]? = if j ∈ vs then σ[j]?.map (fun _ => none) else σ[j]?
  | [] => by simp [wipe]
  | v :: vs => by
    unfold wipe
    rw [List.getElem?_set, wipe_get σ j vs, wipe_length]
    by_cases h : v = j
    · subst h
      by_cases hl : v < σ.length
      · simp [hl]
      · simp [hl]
    · rw [if_neg h]
      have : (j ∈ v :: vs) ↔ j ∈ vs := by simp [Ne.symm h]
      simp only [this]
theorem wipe_set (σ : St) (i : Nat) (x : Option V) (vs : List Nat) (h : i ∈ vs) : wipe (σ.set i x) vs = wipe σ vs := by
  apply List.ext_getElem?
  intro j
  rw [wipe_get, wipe_get]
  by_cases hj : i = j
  · subst hj
    rw [if_pos h, if_pos h, List.getElem?_set]
    by_cases hl : i < σ.length
    · simp [hl]
    · simp [hl]
  · rw [List.getElem?_set_ne hj]
theorem wipe_idem (σ : St) (vs : List Nat) : wipe (wipe σ vs) vs = wipe σ vs := by
  apply List.ext_getElem?
  intro j
  rw [wipe_get, wipe_get]
  split
  · rw [Option.map_map]; rfl
  · rfl
def tgG (K : PySem.W.Frag) (F : Hp) (γ : Gm) (is : List Nat) (g : WG) : TG := fun v σ H Q => ∃ H0 env c d P, Rep K F γ H0 H σ env c ∧ Has K H0 v d ∧ g d env P ∧
  ∀ σ' env', P env' → Rep K F γ H0 H σ' env' c → (∀ vs : List Nat, (∀ i ∈ is, i ∈ vs) → wipe σ' vs = wipe σ vs ∧ wipeE env' vs = wipeE env vs) → Q σ' H
def tgGs (K : PySem.W.Frag) (F : Hp) (γ : Gm) (is : List Nat) (g : WGs) : TGs := fun v σ H Q => ∃ H0 env c d P, Rep K F γ H0 H σ env c ∧ HasL K H0 v d ∧ g d env P ∧
  ∀ σ' env', P env' → Rep K F γ H0 H σ' env' c → (∀ vs : List Nat, (∀ i ∈ is, i ∈ vs) → wipe σ' vs = wipe σ vs ∧ wipeE env' vs = wipeE env vs) → Q σ' H
def gN (i : Nat) : WG := fun d env P => P (env.set i (.val d))
def gNl : WGs := fun ds env P => ds = [] ∧ P env
def gCs (g : WG) (r : WGs) : WGs := fun ds env P => ∃ d ds', ds = d :: ds' ∧ g d env fun env' => r ds' env' P
def gT (n : Nat) (r : WGs) : WG := fun d env P => ∃ ds, d = .tup ds ∧ ds.length = n ∧ r ds env P
theorem PG.imp {tg : Expr} {t t' : TG} (h : PG X tg t) (hi : ∀ v σ H Q, t' v σ H Q → t v σ H Q) : PG X tg t' := ⟨fun pins s σ H v u Q I r hw => h.run pins s σ H v u Q I r (hi _ _ _ _ hw)⟩
theorem PGs.imp {tg : List Expr} {t t' : TGs} (h : PGs X tg t) (hi : ∀ v σ H Q, t' v σ H Q → t v σ H Q) : PGs X tg t' := ⟨fun pins s σ H v u Q I r hw => h.run pins s σ H v u Q I r (hi _ _ _ _ hw)⟩
theorem dgN (i : Nat) {x : Str} {pos : Pos} (hN : X.N.Nodup) (hi : X.N[i]? = some x := by rfl) (hx : Loc X.env.scope x := by first | exact Or.inl rfl | exact Or.inr rfl) (hf : X.fn x = true ∨ X.env.scope.names.lookup x = some .local := by first | exact .inl rfl | exact .inr rfl | assumption) :
    PG X (.Name x pos) (tgG X.K F γ [i] (gN i)) := PG.imp (pg_name hN hi hx hf) fun v σ H Q h => by
  obtain ⟨H0, env, c, d, P, R, hd, q, k⟩ := h
  exact k _ _ q (R.setVal hd i) fun vs hv => ⟨wipe_set σ i _ vs (hv i (by simp)), wipeE_set env i _ vs (hv i (by simp))⟩
theorem dgNil : PGs X [] (tgGs X.K F γ [] gNl) := PGs.imp pgs_nil fun v σ H Q h => by
  obtain ⟨H0, env, c, d, P, R, hd, ⟨e, q⟩, k⟩ := h
  subst e
  cases hd
  exact ⟨rfl, k _ _ q R fun _ _ => ⟨rfl, rfl⟩⟩
theorem dgCons {es : List Expr} {g : WG} {r : WGs} {is js : List Nat} (h1 : PG X e (tgG X.K F γ is g)) (h2 : PGs X es (tgGs X.K F γ js r))
    (hs : (assignEach (e :: es) X.env).map (·.2) = assign e X.env :: (assignEach es X.env).map (·.2) := by rfl) : PGs X (e :: es) (tgGs X.K F γ (is ++ js) (gCs g r)) := PGs.imp (pgs_cons h1 h2 hs) fun v σ H Q h => by
  obtain ⟨H0, env, c, d, P, R, hd, ⟨d1, ds, e, q⟩, k⟩ := h
  subst e
  cases hd with
  | cons hd hr =>
    refine ⟨_, _, rfl, H0, env, c, d1, _, R, hd, q, fun σ1 env1 q1 R1 w1 => ?_⟩
    exact ⟨H0, env1, c, ds, _, R1, hr, q1, fun σ2 env2 q2 R2 w2 => k _ _ q2 R2 fun vs hv => ⟨(w2 vs fun i hi => hv i (List.mem_append_right _ hi)).1.trans (w1 vs fun i hi => hv i (List.mem_append_left _ hi)).1, (w2 vs fun i hi => hv i (List.mem_append_right _ hi)).2.trans (w1 vs fun i hi => hv i (List.mem_append_left _ hi)).2⟩⟩
theorem dgTup {es : List Expr} {k n : Nat} {r : WGs} {is : List Nat} (h : PGs X es (tgGs X.K F γ is r)) (hc : X.calm = true := by rfl)
    (hn : (assignEach es X.env).length = n := by rfl) (hst : (assignEach es X.env).findIdx? (·.1) = none := by rfl) : PG X (.Tuple es k pos) (tgG X.K F γ is (gT n r)) := PG.imp (pg_tup hc h hn hst) fun v σ H Q h => by
  obtain ⟨H0, env, c, d, P, R, hd, ⟨ds, e, hl, q⟩, k⟩ := h
  subst e
  cases hd with
  | tup h1 h2 =>
    exact ⟨_, _, rfl, SqT.of (R.core.sub _ _ h1), h2.length.trans hl, H0, env, c, ds, P, R, h2, q, k⟩
/-- target = value -/
def wAsg (w : WE) (g : WG) : WS := fun E env c => w env c fun d c1 => g d env fun env' => E.nx env' c1
theorem dsAsg {tg : Expr} {g : WG} {is : List Nat} (he : PE X e (tG X.K F γ we)) (hg : PG X tg (tgG X.K F γ is g)) (hs : swapsWithSole [tg] e pos.line X.env = pure false := by rfl) (hw : swappedStores [tg] e X.env = pure none := by rfl)
    (h1 : (assignEach [tg] X.env).map (·.2) = [assign tg X.env] := by rfl) : PS X (.Assign [tg] e pos) (tS X.K F γ (wAsg we g)) := PS.imp (ps_asg he hg hs hw h1) fun E σ H h => by
  obtain ⟨H0, env, c, D, R, q, k1, k2, k3, k4⟩ := h
  exact ⟨H0, env, c, _, R, q, fun d c1 v H1 H01 q1 s1 R1 h1 => ⟨H01, env, c1, d, _, R1, h1, q1, fun σ' env' q2 R2 _ => k1 _ _ _ _ _ q2 s1 R2⟩⟩

/-! ### what is walked -/
abbrev WI := List Sl → Nat → (List D → Nat → Prop) → Prop
def YD (K : PySem.W.Frag) (H0 : Hp) (d : D) (H : Hp) (x : V) (H' : Hp) : Prop :=
  (H' = H ∧ Has K H0 x d) ∨ ∃ T a b da db, x = .ref T ∧ H T = none ∧ H' = upd H T (.tup [a, b]) ∧ Has K H0 a da ∧ Has K H0 b db ∧ d = .tup [da, db]
def WalkD (K : PySem.W.Frag) (J : It) (ds : List D) (H0 : Hp) : Prop := Walk J ds.length (fun H => Same H0 H) fun i H x H' => ∃ d, ds[i]? = some d ∧ YD K H0 d H x H'
def iG (K : PySem.W.Frag) (F : Hp) (γ : Gm) (w : WI) : TI := fun σ H R => ∃ H0 env c P, Rep K F γ H0 H σ env c ∧ w env c P ∧
  ∀ ds c' H' H0' J, P ds c' → Same H0 H0' → Rep K F γ H0' H' σ env c' → WalkD K J ds H0' → R J H'
theorem PI.imp {tg iter : Expr} {t t' : TI} (h : PI X tg iter t) (hi : ∀ σ H R, t' σ H R → t σ H R) : PI X tg iter t' := ⟨fun pins s σ H R I hw => h.run pins s σ H R I (hi _ _ _ hw)⟩
/-- what a turn gives, frozen -/
theorem YD.rep {K : PySem.W.Frag} {H0 H0c H H' : Hp} {σ : St} {env : List Sl} {c : Nat} {d : D} {x : V} (y : YD K H0 d H x H') (s : Same H0 H0c) (R : Rep K F γ H0c H σ env c) : ∃ H0n, Same H0c H0n ∧ Rep K F γ H0n H' σ env c ∧ Has K H0n x d := by
  rcases y with ⟨rfl, h⟩ | ⟨T, a, b, da, db, rfl, hT, rfl, ha, hb, rfl⟩
  · exact ⟨H0c, Same.refl _, R, h.mono s⟩
  · have f := Same.new (o := .tup [a, b]) (R.core.sub.free hT)
    exact ⟨upd H0c T (.tup [a, b]), f, R.alloc hT, .tup upd_same (.cons ((ha.mono s).mono f) (.cons ((hb.mono s).mono f) .nil))⟩

/-! ### for, while -/
def forW (g : WG) (body : WS) : List D → WS
  | [] => fun E env c => E.nx env c
  | d :: ds => fun E env c => g d env fun env1 => body { nx := forW g body ds E, rt := E.rt, bk := E.nx, ct := forW g body ds E } env1 c
def wFor (wi : WI) (g : WG) (body : WS) : WS := fun E env c => wi env c fun ds c1 => forW g body ds E env c1
theorem dsFor {tg iter : Expr} {body : List Stmt} {wi : WI} {g : WG} {is : List Nat} (hi : PI X tg iter (iG X.K F γ wi)) (hg : PG X tg (tgG X.K F γ is g)) (hb : PSs X body (tS X.K F γ w)) (hp : PassesOwn (model X.prog X.w) X.A X.env X.xe) (hc : X.calm = true := by rfl)
    (hs : ∀ x, foldedSetIterable iter X.env x = pure x := by intro _; rfl) : PS X (.For tg iter body [] pos) (tS X.K F γ (wFor wi g w)) := PS.imp (ps_for hp hc hi hg hb hs) fun E σ H h => by
  obtain ⟨H0, env, c, D, R, q, k1, k2, k3, k4⟩ := h
  refine ⟨H0, env, c, _, R, q, fun ds c1 H1 H01 J q1 s1 R1 wk => ?_⟩
  refine for_it wk (fun i σ H => ∃ H0c env c, Same H01 H0c ∧ Rep X.K F γ H0c H σ env c ∧ forW g w (ds.drop i) D env c) ⟨H01, env, c1, Same.refl _, R1, by simpa using q1⟩ (fun i σ H _ ⟨H0c, _, _, s, R, _⟩ => s.trans R.core.sub) ?_ ?_
  · rintro i x σ H H' hi ⟨H0c, env, c, s2, R2, q2⟩ ⟨d, hd, y⟩
    obtain ⟨H0n, s3, R3, h3⟩ := y.rep s2 R2
    have e : ds.drop i = d :: ds.drop (i + 1) := by
      obtain ⟨h4, h5⟩ := List.getElem?_eq_some_iff.mp hd
      rw [List.drop_eq_getElem_cons h4, h5]
    rw [e] at q2
    refine ⟨H0n, env, c, d, _, R3, h3, q2, fun σ' env' q3 R4 _ => ?_⟩
    have s03 := (s1.trans s2).trans s3
    exact ⟨H0n, env', c, _, R4, q3, fun σ4 env4 c4 H4 H04 q4 s4 R5 => ⟨H04, env4, c4, (s2.trans s3).trans s4, R5, q4⟩, fun _ _ _ _ _ q4 s4 R5 => k2 _ _ _ _ _ q4 (s03.trans s4) R5, fun _ _ _ _ _ q4 s4 R5 => k1 _ _ _ _ _ q4 (s03.trans s4) R5, fun σ4 env4 c4 H4 H04 q4 s4 R5 => ⟨H04, env4, c4, (s2.trans s3).trans s4, R5, q4⟩⟩
  · rintro σ H ⟨H0c, env, c, s2, R2, q2⟩
    rw [List.drop_length] at q2
    exact k1 _ _ _ _ _ q2 (s1.trans s2) R2
def whileN (t : WT) (body : WS) : Nat → WS
  | 0 => fun _ _ _ => False
  | n + 1 => fun E env c => t env c fun k c1 => if k = true then body { nx := whileN t body n E, rt := E.rt, bk := E.nx, ct := whileN t body n E } env c1 else E.nx env c1
def wWhile (t : WT) (body : WS) : WS := fun E env c => ∃ n, whileN t body n E env c
theorem dsWhile {t : Expr} {wt : WT} {body : List Stmt} (ht : PT X t (tT X.K F γ wt)) (hb : PSs X body (tS X.K F γ w)) (hp : PassesOwn (model X.prog X.w) X.A X.env X.xe) : PS X (.While t body [] pos) (tS X.K F γ (wWhile wt w)) := PS.imp (ps_while hp ht hb) fun E σ H h => by
  obtain ⟨H0, env, c, D, R, ⟨n, q⟩, k1, k2, k3, k4⟩ := h
  refine ⟨fun m σ H => ∃ H0c env c, Same H0 H0c ∧ Rep X.K F γ H0c H σ env c ∧ whileN wt w m D env c, ⟨n, H0, env, c, Same.refl _, R, q⟩, ?_⟩
  rintro m σ H ⟨H0c, env, c, s1, R1, q1⟩
  cases m with
  | zero => exact (show False from q1).elim
  | succ m =>
    refine ⟨H0c, env, c, _, R1, q1, fun b c2 H2 H02 q2 s2 R2 => ?_⟩
    cases b with
    | false => exact k1 _ _ _ _ _ q2 (s1.trans s2) R2
    | true =>
      rw [if_pos rfl] at q2 ⊢
      refine ⟨fun σ H => ∃ H0c env c, Same H0 H0c ∧ Rep X.K F γ H0c H σ env c ∧ whileN wt w m D env c, fun σ' H' z => ⟨m, Nat.lt_succ_self _, z⟩, ?_⟩
      have s02 := s1.trans s2
      exact ⟨H02, env, c2, _, R2, q2, fun σ4 env4 c4 H4 H04 q4 s4 R5 => ⟨H04, env4, c4, s02.trans s4, R5, q4⟩, fun _ _ _ _ _ q4 s4 R5 => k2 _ _ _ _ _ q4 (s02.trans s4) R5, fun _ _ _ _ _ q4 s4 R5 => k1 _ _ _ _ _ q4 (s02.trans s4) R5, fun σ4 env4 c4 H4 H04 q4 s4 R5 => ⟨H04, env4, c4, s02.trans s4, R5, q4⟩⟩
end
end L2.DL

set_option Elab.async false
set_option linter.all false
set_option autoImplicit false
set_option maxRecDepth 100000
namespace L2.DL
open PySem PySem.Spec PyProof.Rows
section
variable {K : PySem.W.Frag} {F : Hp} {γ : Gm} {H0 H : Hp} {σ : St} {env : List Sl} {c : Nat}

/-! ### comprehensions -/
theorem Rep.wipe (R : Rep K F γ H0 H σ env c) : ∀ vs : List Nat, Rep K F γ H0 H (L2.wipe σ vs) (wipeE env vs) c
  | [] => R
  | v :: vs => (Rep.wipe R vs).setNo v
def Sl.calm : Option Sl → Bool | some (.ow _) => false | some (.gx _ _ _) => false | _ => true
def noOwn (env : List Sl) : List Nat → Bool
  | [] => true
  | i :: r => Sl.calm env[i]? && noOwn env r
theorem noOwn_mem {env : List Sl} : ∀ {vs : List Nat}, noOwn env vs = true → ∀ i ∈ vs, Sl.calm env[i]? = true
  | [], _, i, h => by cases h
  | a :: r, e, i, h => by
    have e' : (Sl.calm env[a]? && noOwn env r) = true := e
    rw [Bool.and_eq_true] at e'
    rcases List.mem_cons.mp h with z | z
    · rw [z]; exact e'.1
    · exact noOwn_mem e'.2 i z
/-- behind a block: the slots it did not have are as they were -/
theorem Rep.back {H0' H' : Hp} {σ2 : St} {env2 : List Sl} {c' : Nat} {vs : List Nat} (R : Rep K F γ H0 H σ env c) (R2 : Rep K F γ H0' H' σ2 env2 c') (s : Same H0 H0') (w1 : L2.wipe σ2 vs = L2.wipe σ vs) (w2 : wipeE env2 vs = wipeE env vs) (no : noOwn env vs = true) :
    Rep K F γ H0' H' σ env c' := by
  have hσ : ∀ i, i ∉ vs → σ2[i]? = σ[i]? := fun i hi => by
    have := congrArg (fun l : St => l[i]?) w1
    simp only [wipe_get, if_neg hi] at this
    exact this
  have he : ∀ i, i ∉ vs → env2[i]? = env[i]? := fun i hi => by
    have := congrArg (fun l : List Sl => l[i]?) w2
    simp only [wipeE_get, if_neg hi] at this
    exact this
  have hno : ∀ i ds, env[i]? = some (.ow ds) → i ∉ vs := fun i ds e hi => by
    have := noOwn_mem no i hi
    rw [e] at this
    exact Bool.noConfusion this
  have hnx : ∀ i cs a r, env[i]? = some (.gx cs a r) → i ∉ vs := fun i cs a r e hi => by
    have := noOwn_mem no i hi
    rw [e] at this
    exact Bool.noConfusion this
  refine ⟨R2.core, R.len, fun i o sl h1 h2 => ?_, R.dis⟩
  by_cases hi : i ∈ vs
  · have q := R.at_ i o sl h1 h2
    cases sl with
    | no => trivial
    | val d => obtain ⟨v, e, q⟩ := q; exact ⟨v, e, q.mono s⟩
    | ow ds => exact absurd hi (hno i ds h2)
    | gau => exact q
    | lam => exact q
    | scr => first | exact q | exact ScrOk.mono q (by assumption) | exact ScrOk.mono q (Same.new (by assumption)) | exact ScrOk.mono q (Same.new O.z)
    | gx cs a r => exact absurd hi (hnx i cs a r h2)
  · exact R2.at_ i o sl (by rw [hσ i hi]; exact h1) (by rw [he i hi]; exact h2)
/-- a list that a slot does not hold, put into the frame -/
theorem Rep.intoFrame {a : Addr} {ho : HO} (R : Rep K F γ H0 H σ env c) (g : γ.g ≠ some a) (z : H0 a = none) (h : H a = some ho) (nt0 : NoTab ho) (ap : ∀ (i : Nat) (es : OT), σ[i]? = some (some (.ref a)) → env[i]? = some (.ow es) → False) :
    Rep K (upd F a ho) γ H0 H σ env c := by
  refine ⟨⟨R.core.sub, fun b o e => ?_, fun g' e => ?_, R.core.grd, R.core.tbs, tb0_updF R.core.tb0 (Tabs.ne R.core.tbs h nt0)⟩, R.len, fun i o sl h1 h2 => ?_, R.dis⟩
  · by_cases hb : b = a
    · subst hb; rw [upd_same] at e; cases e; exact ⟨h, z⟩
    · rw [upd_ne hb] at e; exact R.core.frm _ _ e
  · obtain ⟨x, y, G⟩ := R.core.gau g' e
    have n : g' ≠ a := fun q => g (by rw [← q]; exact e)
    exact ⟨by rw [upd_ne n]; exact x, y, G⟩
  · have q := R.at_ i o sl h1 h2
    cases sl with
    | no => trivial
    | val d => exact q
    | ow ds =>
      obtain ⟨b, us, e, g2, f2, q⟩ := q
      subst e
      have n : b ≠ a := fun q => ap i ds (by rw [← q]; exact h1) h2
      exact ⟨b, us, rfl, g2, by rw [upd_ne n]; exact f2, q⟩
    | gau => exact q
    | lam => exact q
    | scr => first | exact q | exact ScrOk.mono q (by assumption) | exact ScrOk.mono q (Same.new (by assumption)) | exact ScrOk.mono q (Same.new O.z)
    | gx cs i' r => exact q
theorem Rep.outFrame {a : Addr} {o : HO} (R : Rep K (upd F a o) γ H0 H σ env c) (fa : F a = none) : Rep K F γ H0 H σ env c := by
  have hF : ∀ b, F b ≠ none → upd F a o b = F b := fun b hb => upd_ne fun q => hb (by rw [q]; exact fa)
  have hn : ∀ b, upd F a o b = none → F b = none := fun b hb => by
    by_cases q : b = a
    · rw [q]; exact fa
    · rwa [upd_ne q] at hb
  refine ⟨⟨R.core.sub, fun b u e => R.core.frm b u (by rw [hF b (by rw [e]; exact Option.some_ne_none _)]; exact e), fun g' e => ?_, R.core.grd, R.core.tbs, fun p hp => ⟨(R.core.tb0 p hp).1, hn _ (R.core.tb0 p hp).2⟩⟩, R.len, fun i o sl h1 h2 => ?_, R.dis⟩
  · obtain ⟨x, y, G⟩ := R.core.gau g' e
    exact ⟨hn _ x, y, G⟩
  · have q := R.at_ i o sl h1 h2
    cases sl with
    | no => trivial
    | val d => exact q
    | ow ds =>
      obtain ⟨b, us, e, g2, f2, q⟩ := q
      exact ⟨b, us, e, g2, hn _ f2, q⟩
    | gau => exact q
    | lam => exact q
    | scr => first | exact q | exact ScrOk.mono q (by assumption) | exact ScrOk.mono q (Same.new (by assumption)) | exact ScrOk.mono q (Same.new O.z)
    | gx cs i' r => exact q
/-- a list outside changes -/
theorem Rep.writeOut {a : Addr} {us : List V} (R : Rep K F γ H0 H σ env c) (g : γ.g ≠ some a) (fa : F a = none) (z : H0 a = none) (nt : ∀ u, H a = some u → NoTab u) (ap : ∀ (i : Nat) (es : OT), σ[i]? = some (some (.ref a)) → env[i]? = some (.ow es) → False) :
    Rep K F γ H0 (upd H a (.lst us)) σ env c := by
  refine ⟨⟨fun b o e => ?_, fun b o e => ?_, fun g' e => ?_, R.core.grd, Tabs.upd R.core.tbs nt, R.core.tb0⟩, R.len, fun j x sl h1 h2 => ?_, R.dis⟩
  · rw [upd_ne (ne_of_none e z)]; exact R.core.sub _ _ e
  · rw [upd_ne (ne_of_none e fa)]; exact R.core.frm _ _ e
  · obtain ⟨x, y, G⟩ := R.core.gau g' e
    have n : g' ≠ a := fun q => g (by rw [← q]; exact e)
    exact ⟨x, y, G.mono (Same.refl _) (upd_ne n) (Nat.le_refl _)⟩
  · have q := R.at_ j x sl h1 h2
    cases sl with
    | no => trivial
    | val d => exact q
    | ow fs =>
      obtain ⟨b, ws, e, g2, f2, z2, h2', l2⟩ := q
      subst e
      have nb : b ≠ a := fun q => ap j fs (by rw [← q]; exact h1) h2
      exact ⟨b, ws, rfl, g2, f2, z2, by rw [upd_ne nb]; exact h2', l2⟩
    | gau => exact q
    | lam => exact q
    | scr => first | exact q | exact ScrOk.mono q (by assumption) | exact ScrOk.mono q (Same.new (by assumption)) | exact ScrOk.mono q (Same.new O.z)
    | gx cs i' r =>
      obtain ⟨b, ca, e, eg, hg, q⟩ := q
      have nb : b ≠ a := fun z => g (by rw [← z]; exact eg)
      exact ⟨b, ca, e, eg, by rw [upd_ne nb]; exact hg, q⟩
def compN (g : WG) (tt : WT) (te : WE) (env : List Sl) : List D → Nat → (List D → Nat → Prop) → Prop
  | [], c, P => P [] c
  | d :: ds, c, P => g d env fun env1 => tt env1 c fun k c1 => if k = true then te env1 c1 fun y c2 => compN g tt te env ds c2 fun ys c3 => P (y :: ys) c3 else compN g tt te env ds c1 P
def wComp (wi : WI) (g : WG) (tt : WT) (te : WE) (vs : List Nat) : WI := fun env c P => wi env c fun ds c1 => noOwn env vs = true ∧ ds.length ≤ sizeLine ∧ compN g tt te (wipeE env vs) ds c1 P
def wLc (w : WI) : WE := fun env c P => w env c fun ds c1 => P (.lst ds) c1
def tYesG : WT := fun _ c P => P true c
end
section
variable {X : Cx} {F : Hp} {γ : Gm} {pos : Pos}
theorem dtYes : PTs X [] (tT X.K F γ tYesG) := ⟨fun pins s σ H Q I h => pts_nil.run pins s σ H Q I (by
  obtain ⟨H0, env, c, P, R, q, k⟩ := h
  exact k _ _ _ _ q (Same.refl _) R)⟩
theorem dtOne {e : Expr} {wt : WT} (h : PT X e (tT X.K F γ wt)) : PTs X [e] (tT X.K F γ wt) := pts_one h
/-- a fresh list comes out -/
def tO (K : PySem.W.Frag) (F : Hp) (γ : Gm) (w : WI) : TE := fun σ H Q => ∃ H0 env c P, Rep K F γ H0 H σ env c ∧ w env c P ∧
  ∀ ds c' a H' H0', P ds c' → Same H0 H0' → Rep K F γ H0' H' σ env c' → Own K F γ H0' H' σ env a (.l ds) → Q (.ref a) H'
/-- a fresh list that is frozen at once -/
theorem Own.frz {K : PySem.W.Frag} {F : Hp} {γ : Gm} {H0 H : Hp} {σ : St} {env : List Sl} {c : Nat} {a : Addr} {ds : List D} (R : Rep K F γ H0 H σ env c) (O : Own K F γ H0 H σ env a (.l ds)) :
    ∃ H0', Same H0 H0' ∧ Rep K F γ H0' H σ env c ∧ Has K H0' (.ref a) (.lst ds) := by
  obtain ⟨_, ha, vs, rfl, hz, hv⟩ := O.h
  refine ⟨upd H0 a (.lst vs), Same.new O.z, ⟨⟨fun b o q => ?_, fun b o q => ?_, fun g' q => ?_, R.core.grd.trans (Same.new O.z), R.core.tbs, tb0_upd R.core.tb0 (Tabs.ne R.core.tbs ha noTab_lst)⟩, R.len, fun j x sl h1 h3 => ?_, R.dis⟩, .lst upd_same (hv.mono (Same.new O.z))⟩
  · by_cases hb : b = a
    · subst hb; rw [upd_same] at q; cases q; exact ha
    · rw [upd_ne hb] at q; exact R.core.sub _ _ q
  · obtain ⟨x, y⟩ := R.core.frm _ _ q
    exact ⟨x, by rw [upd_ne (ne_of_none q O.f)]; exact y⟩
  · obtain ⟨x, y, G⟩ := R.core.gau g' q
    have n : g' ≠ a := fun r => O.g (by rw [← r]; exact q)
    exact ⟨x, by rw [upd_ne n]; exact y, G.mono (Same.new O.z) rfl (Nat.le_refl _)⟩
  · have q := R.at_ j x sl h1 h3
    cases sl with
    | no => trivial
    | val d => obtain ⟨v, e, q⟩ := q; exact ⟨v, e, q.mono (Same.new O.z)⟩
    | ow fs =>
      obtain ⟨b, ws, e, g2, f2, z2, h2', l2⟩ := q
      subst e
      have nb : b ≠ a := fun q => O.apart j fs (by rw [← q]; exact h1) h3
      exact ⟨b, ws, rfl, g2, f2, by rw [upd_ne nb]; exact z2, h2', l2.mono (Same.new O.z)⟩
    | gau => exact q
    | lam => exact q
    | scr => first | exact q | exact ScrOk.mono q (by assumption) | exact ScrOk.mono q (Same.new (by assumption)) | exact ScrOk.mono q (Same.new O.z)
    | gx cs i' r =>
      obtain ⟨b, ca, e, eg, hg, q⟩ := q
      exact ⟨b, ca, e, eg, hg, q.mono (Same.new O.z)⟩
theorem dOfO {e : Expr} {w : WI} (h : PE X e (tO X.K F γ w)) : PE X e (tG X.K F γ (wLc w)) := PE.imp h fun σ H Q h => by
  obtain ⟨H0, env, c, P, R, q, k⟩ := h
  refine ⟨H0, env, c, _, R, q, fun ds c1 a H1 H01 q1 s1 R1 O => ?_⟩
  obtain ⟨H02, s2, R2, h2⟩ := O.frz R1
  exact k _ _ _ _ _ q1 (s1.trans s2) R2 h2
def exG (K : PySem.W.Frag) (γ : Gm) (is : List Nat) (g : WG) : TG := fun v σ H Q => ∃ F', tgG K F' γ is g v σ H Q
def exT (K : PySem.W.Frag) (γ : Gm) (w : WT) : TT := fun σ H Q => ∃ F', tT K F' γ w σ H Q
def exE (K : PySem.W.Frag) (γ : Gm) (w : WE) : TE := fun σ H Q => ∃ F', tG K F' γ w σ H Q
theorem lc_read {K : PySem.W.Frag} {wi : WI} {g : WG} {is : List Nat} {wt : WT} {we : WE} {vs : List Nat} (his : ∀ i ∈ is, i ∈ vs) {σ : St} {H : Hp} {Q : VK} (h : tO K F γ (wComp wi g wt we vs) σ H Q) :
    tLc (iG K F γ wi) (exG K γ is g) (exT K γ wt) (exE K γ we) vs σ H Q := by
  obtain ⟨H0, env, c, P, R, q, k⟩ := h
  refine ⟨H0, env, c, _, R, q, fun ds c1 H1 H01 J ⟨no, hz, q1⟩ s1 R1 wk => ?_⟩
  intro A hA
  refine lc_it wk (g := exG K γ is g) (tt := exT K γ wt) (te := exE K γ we) (σ := σ) (vs := vs) (D := A) (H1 := H1) (Qd := fun H => Q (.ref A) H) (fun i H => ∃ H0c c acc us, Same H01 H0c ∧ Rep K F γ H0c H σ env c ∧ H A = some (.lst acc) ∧ acc.length ≤ i ∧ HasL K H0c acc us ∧ Own K F γ H0c H σ env A (.l us) ∧ compN g wt we (wipeE env vs) (ds.drop i) c (fun ys c3 => P (us ++ ys) c3)) ?_ (fun i H _ ⟨H0c, _, _, _, s, R, _⟩ => s.trans R.core.sub) ?_ ?_
  · exact ⟨H01, c1, [], [], Same.refl _, R1.allocOwn hA, upd_same, Nat.le_refl _, .nil, R1.ownNew hA (Nat.zero_le _) .nil, by simpa using q1⟩
  · rintro i x H H' hi ⟨H0c, c, acc, us, s2, R2, a2, l2, u2, O2, q2⟩ ⟨d, hd, y⟩
    have e : ds.drop i = d :: ds.drop (i + 1) := by
      obtain ⟨h4, h5⟩ := List.getElem?_eq_some_iff.mp hd
      rw [List.drop_eq_getElem_cons h4, h5]
    rw [e] at q2
    have ap := O2.apart
    obtain ⟨H0n, s3, RF, h3⟩ := y.rep s2 (R2.intoFrame O2.g O2.z a2 noTab_lst ap)
    refine ⟨upd F A (.lst acc), H0n, _, c, d, _, RF.wipe vs, h3, q2, fun σ2 env2 q3 R4 w4 => ?_⟩
    obtain ⟨w5, w6⟩ := w4 vs his
    rw [wipe_idem] at w5
    rw [wipeE_idem] at w6
    refine ⟨w5, upd F A (.lst acc), H0n, env2, c, _, R4, q3, fun b c3 H3 H03 q4 s4 R5 => ?_⟩
    cases b with
    | false =>
      have R6 := RF.back R5 s4 w5 w6 no
      obtain ⟨h7, z7⟩ := R6.core.frm A _ upd_same
      have s14 := (s2.trans s3).trans s4
      refine ⟨H03, c3, acc, us, s14, R6.outFrame O2.f, h7, Nat.le_succ_of_le l2, u2.mono (s3.trans s4), ⟨O2.g, O2.f, z7, ⟨_, h7, acc, rfl, by omega, u2.mono (s3.trans s4)⟩, ap⟩, q4⟩
    | true =>
      rw [if_pos rfl] at q4 ⊢
      refine ⟨upd F A (.lst acc), H03, env2, c3, _, R5, q4, fun d6 c6 v6 H6 H06 q6 s6 R7 h6 => ?_⟩
      have R8 := RF.back R7 (s4.trans s6) w5 w6 no
      obtain ⟨h7, z7⟩ := R8.core.frm A _ upd_same
      have s14 := ((s2.trans s3).trans s4).trans s6
      have s34 := (s3.trans s4).trans s6
      have R9 := R8.outFrame O2.f
      have hac : acc.length < sizeLine := by omega
      have hv : HasL K H06 (acc ++ [v6]) (us ++ [d6]) := (u2.mono s34).append (.cons h6 .nil)
      have hz2 : (acc ++ [v6]).length ≤ sizeLine := by rw [List.length_append, List.length_singleton]; omega
      refine ⟨acc, h7, hac, H06, c6, acc ++ [v6], us ++ [d6], s14, R9.writeOut O2.g O2.f z7 (fun u eu => by rw [h7] at eu; cases eu; exact noTab_lst) ap, upd_same, by rw [List.length_append, List.length_singleton]; omega, hv, ⟨O2.g, O2.f, z7, ⟨_, upd_same, _, rfl, hz2, hv⟩, ap⟩, ?_⟩
      have e2 : (fun ys c3 => P (us ++ d6 :: ys) c3) = fun ys c3 => P ((us ++ [d6]) ++ ys) c3 := by
        funext ys c3
        rw [List.append_assoc]; rfl
      rw [← e2]
      exact q6
  · rintro H ⟨H0c, c, acc, us, s2, R2, a2, l2, u2, O2, q2⟩
    rw [List.drop_length] at q2
    refine k us c A H H0c ?_ (s1.trans s2) R2 O2
    have q2' : P (us ++ []) c := q2
    rwa [List.append_nil] at q2'
theorem oComp {elt tg iter : Expr} {ifs : List Expr} {scope : Scope} {own : List (Str × Nat)} {wi : WI} {g : WG} {is : List Nat} {wt : WT} {we : WE} (hi : PI X tg iter (iG X.K F γ wi)) (ok : blkC X.N X.env.scope scope own = true)
    (hg : ∀ (F' : Hp) (s : Shared) (H : Hp) (C : Addr) (cl : List (Str × Addr)) (fp : List Addr), PG (X.blk s H scope (compEnvC scope cl C X.env) fp) tg (tgG X.K F' γ is g)) (ht : ∀ (F' : Hp) (s : Shared) (H : Hp) (C : Addr) (cl : List (Str × Addr)) (fp : List Addr), PTs (X.blk s H scope (compEnvC scope cl C X.env) fp) ifs (tT X.K F' γ wt))
    (he : ∀ (F' : Hp) (s : Shared) (H : Hp) (C : Addr) (cl : List (Str × Addr)) (fp : List Addr), PE (X.blk s H scope (compEnvC scope cl C X.env) fp) elt (tG X.K F' γ we)) (hN : X.N.Nodup) (his : ∀ i ∈ is, i ∈ own.map (·.2) := by decide) (hc : X.calm = true := by rfl) (hs : ∀ x, foldedSetIterable iter X.env x = pure x := by intro _; rfl) :
    PE X (.ListComp elt [⟨tg, iter, ifs, 0⟩] scope pos) (tO X.K F γ (wComp wi g wt we (own.map (·.2)))) := PE.imp (pe_lc (g := exG X.K γ is g) (tt := exT X.K γ wt) (te := exE X.K γ we) hc hN hi (blkOk_by ok) (fun s H C cl fp => ⟨fun pins s' σ H' v u Q I r ⟨F', h⟩ => (hg F' s H C cl fp).run pins s' σ H' v u Q I r h⟩) (fun s H C cl fp => ⟨fun pins s' σ H' Q I ⟨F', h⟩ => (ht F' s H C cl fp).run pins s' σ H' Q I h⟩) (fun s H C cl fp => ⟨fun pins s' σ H' Q I ⟨F', h⟩ => (he F' s H C cl fp).run pins s' σ H' Q I h⟩) hs)
    fun σ H Q h => lc_read his h
/-- x = a fresh list -/
def wSetO (i : Nat) (w : WI) : WS := fun E env c => w env c fun ds c1 => E.nx (env.set i (.own ds)) c1
def wSetL (i : Nat) (w : WI) : WS := fun E env c => w env c fun ds c1 => E.nx (env.set i (.val (.lst ds))) c1
theorem setO_read {K : PySem.W.Frag} {i : Nat} {w : WI} {E : Ends} {σ : St} {H : Hp} (h : tS K F γ (wSetO i w) E σ H) : tO K F γ w σ H fun x H1 => E.nx (σ.set i (some x)) H1 := by
  obtain ⟨H0, env, c, D, R, q, k1, k2, k3, k4⟩ := h
  exact ⟨H0, env, c, _, R, q, fun ds c1 a H1 H01 q1 s1 R1 O => k1 _ _ _ _ _ q1 s1 (R1.setOwn O i)⟩
theorem setL_read {K : PySem.W.Frag} {i : Nat} {w : WI} {E : Ends} {σ : St} {H : Hp} (h : tS K F γ (wSetL i w) E σ H) : tO K F γ w σ H fun x H1 => E.nx (σ.set i (some x)) H1 := by
  obtain ⟨H0, env, c, D, R, q, k1, k2, k3, k4⟩ := h
  refine ⟨H0, env, c, _, R, q, fun ds c1 a H1 H01 q1 s1 R1 O => ?_⟩
  obtain ⟨H02, s2, R2, h2⟩ := O.frz R1
  exact k1 _ _ _ _ _ q1 (s1.trans s2) (R2.setVal h2 i)
theorem dsSetO (i : Nat) {e : Expr} {w : WI} {x : Str} {pos' : Pos} (h : PE X e (tO X.K F γ w)) (hN : X.N.Nodup) (hi : X.N[i]? = some x := by rfl) (hx : Loc X.env.scope x := by first | exact Or.inl rfl | exact Or.inr rfl) (hs : swapsWith e (some (.Name x pos')) pos.line X.env = pure false := by rfl)
    (hf : X.fn x = true ∨ X.env.scope.names.lookup x = some .local := by first | exact .inl rfl | exact .inr rfl | assumption) : PS X (.Assign [.Name x pos'] e pos) (tS X.K F γ (wSetO i w)) := PS.imp (ps_set hN hi hx h hs hf) fun E σ H h => setO_read h
theorem dsSetL (i : Nat) {e : Expr} {w : WI} {x : Str} {pos' : Pos} (h : PE X e (tO X.K F γ w)) (hN : X.N.Nodup) (hi : X.N[i]? = some x := by rfl) (hx : Loc X.env.scope x := by first | exact Or.inl rfl | exact Or.inr rfl) (hs : swapsWith e (some (.Name x pos')) pos.line X.env = pure false := by rfl)
    (hf : X.fn x = true ∨ X.env.scope.names.lookup x = some .local := by first | exact .inl rfl | exact .inr rfl | assumption) : PS X (.Assign [.Name x pos'] e pos) (tS X.K F γ (wSetL i w)) := PS.imp (ps_set hN hi hx h hs hf) fun E σ H h => setL_read h
theorem setLcGo (i : Nat) {y : Str} {py spos : Pos} {elt tg iter : Expr} {ifs : List Expr} {scope : Scope} {own : List (Str × Nat)} {wi : WI} {g : WG} {is : List Nat} {wt : WT} {we : WE} (hi : PI X tg iter (iG X.K F γ wi)) (ok : blkC X.N X.env.scope scope own = true)
    (hg : ∀ (F' : Hp) (s : Shared) (H : Hp) (C : Addr) (cl : List (Str × Addr)) (fp : List Addr), PG (X.blk s H scope (compEnvC scope cl C X.env) fp) tg (tgG X.K F' γ is g)) (ht : ∀ (F' : Hp) (s : Shared) (H : Hp) (C : Addr) (cl : List (Str × Addr)) (fp : List Addr), PTs (X.blk s H scope (compEnvC scope cl C X.env) fp) ifs (tT X.K F' γ wt))
    (he : ∀ (F' : Hp) (s : Shared) (H : Hp) (C : Addr) (cl : List (Str × Addr)) (fp : List Addr), PE (X.blk s H scope (compEnvC scope cl C X.env) fp) elt (tG X.K F' γ we)) (hN : X.N.Nodup) (hsw : swapsWith (.ListComp elt [⟨tg, iter, ifs, 0⟩] scope pos) (some (.Name y py)) spos.line X.env = pure true)
    (hy : X.N[i]? = some y := by rfl) (hyl : X.env.scope.names.lookup y = some .local := by rfl) (hc : X.calm = true := by rfl) (hs : ∀ x, foldedSetIterable iter X.env x = pure x := by intro _; rfl) :
    PS X (.Assign [.Name y py] (.ListComp elt [⟨tg, iter, ifs, 0⟩] scope pos) spos) (tAsg (tLc (iG X.K F γ wi) (exG X.K γ is g) (exT X.K γ wt) (exE X.K γ we) (own.map (·.2))) (gName i)) :=
  ps_setLc hc hN hy hyl hsw hi (blkOk_by ok) (fun s H C cl fp => ⟨fun pins s' σ H' v u Q I r ⟨F', h⟩ => (hg F' s H C cl fp).run pins s' σ H' v u Q I r h⟩) (fun s H C cl fp => ⟨fun pins s' σ H' Q I ⟨F', h⟩ => (ht F' s H C cl fp).run pins s' σ H' Q I h⟩) (fun s H C cl fp => ⟨fun pins s' σ H' Q I ⟨F', h⟩ => (he F' s H C cl fp).run pins s' σ H' Q I h⟩) hs
theorem dsSetLcO (i : Nat) {y : Str} {py spos : Pos} {elt tg iter : Expr} {ifs : List Expr} {scope : Scope} {own : List (Str × Nat)} {wi : WI} {g : WG} {is : List Nat} {wt : WT} {we : WE} (hi : PI X tg iter (iG X.K F γ wi)) (ok : blkC X.N X.env.scope scope own = true)
    (hg : ∀ (F' : Hp) (s : Shared) (H : Hp) (C : Addr) (cl : List (Str × Addr)) (fp : List Addr), PG (X.blk s H scope (compEnvC scope cl C X.env) fp) tg (tgG X.K F' γ is g)) (ht : ∀ (F' : Hp) (s : Shared) (H : Hp) (C : Addr) (cl : List (Str × Addr)) (fp : List Addr), PTs (X.blk s H scope (compEnvC scope cl C X.env) fp) ifs (tT X.K F' γ wt))
    (he : ∀ (F' : Hp) (s : Shared) (H : Hp) (C : Addr) (cl : List (Str × Addr)) (fp : List Addr), PE (X.blk s H scope (compEnvC scope cl C X.env) fp) elt (tG X.K F' γ we)) (hN : X.N.Nodup) (hsw : swapsWith (.ListComp elt [⟨tg, iter, ifs, 0⟩] scope pos) (some (.Name y py)) spos.line X.env = pure true := by rfl)
    (his : ∀ i ∈ is, i ∈ own.map (·.2) := by decide) (hy : X.N[i]? = some y := by rfl) (hyl : X.env.scope.names.lookup y = some .local := by rfl) (hc : X.calm = true := by rfl) (hs : ∀ x, foldedSetIterable iter X.env x = pure x := by intro _; rfl) :
    PS X (.Assign [.Name y py] (.ListComp elt [⟨tg, iter, ifs, 0⟩] scope pos) spos) (tS X.K F γ (wSetO i (wComp wi g wt we (own.map (·.2))))) :=
  PS.imp (setLcGo i hi ok hg ht he hN hsw hy hyl hc hs) fun E σ H h => lc_read his (setO_read h)
theorem dsSetLcL (i : Nat) {y : Str} {py spos : Pos} {elt tg iter : Expr} {ifs : List Expr} {scope : Scope} {own : List (Str × Nat)} {wi : WI} {g : WG} {is : List Nat} {wt : WT} {we : WE} (hi : PI X tg iter (iG X.K F γ wi)) (ok : blkC X.N X.env.scope scope own = true)
    (hg : ∀ (F' : Hp) (s : Shared) (H : Hp) (C : Addr) (cl : List (Str × Addr)) (fp : List Addr), PG (X.blk s H scope (compEnvC scope cl C X.env) fp) tg (tgG X.K F' γ is g)) (ht : ∀ (F' : Hp) (s : Shared) (H : Hp) (C : Addr) (cl : List (Str × Addr)) (fp : List Addr), PTs (X.blk s H scope (compEnvC scope cl C X.env) fp) ifs (tT X.K F' γ wt))
    (he : ∀ (F' : Hp) (s : Shared) (H : Hp) (C : Addr) (cl : List (Str × Addr)) (fp : List Addr), PE (X.blk s H scope (compEnvC scope cl C X.env) fp) elt (tG X.K F' γ we)) (hN : X.N.Nodup) (hsw : swapsWith (.ListComp elt [⟨tg, iter, ifs, 0⟩] scope pos) (some (.Name y py)) spos.line X.env = pure true := by rfl)
    (his : ∀ i ∈ is, i ∈ own.map (·.2) := by decide) (hy : X.N[i]? = some y := by rfl) (hyl : X.env.scope.names.lookup y = some .local := by rfl) (hc : X.calm = true := by rfl) (hs : ∀ x, foldedSetIterable iter X.env x = pure x := by intro _; rfl) :
    PS X (.Assign [.Name y py] (.ListComp elt [⟨tg, iter, ifs, 0⟩] scope pos) spos) (tS X.K F γ (wSetL i (wComp wi g wt we (own.map (·.2))))) :=
  PS.imp (setLcGo i hi ok hg ht he hN hsw hy hyl hc hs) fun E σ H h => lc_read his (setL_read h)
/-- a fresh list display -/
def wLstO (a : WA) : WI := fun env c P => a env c fun ds c1 => ds.length ≤ sizeLine ∧ P ds c1
theorem oLst {es : List Expr} {wr : WA} (ha : PA X es (tA X.K F γ wr)) : PE X (.List es pos) (tO X.K F γ (wLstO wr)) := PE.imp (pe_lst ha) fun σ H Q h => by
  obtain ⟨H0, env, c, P, R, q, k⟩ := h
  refine ⟨H0, env, c, _, R, q, fun ds c1 vs H1 H01 q1 s1 R1 h1 => ⟨by rw [h1.length]; exact q1.1, fun p hp => ?_⟩⟩
  exact k _ _ _ _ _ q1.2 s1 (R1.allocOwn hp) (R1.ownNew hp (by rw [h1.length]; exact q1.1) h1)

/-! ### a list that a slot owns -/
def wApp (i : Nat) (w : WE) : WS := fun E env c => ∃ ds, env[i]? = some (.own ds) ∧ w env c fun d c1 => ds.length < sizeLine ∧ E.nx (env.set i (.own (ds ++ [d]))) c1
theorem Rep.own_at {K : PySem.W.Frag} {H0 H : Hp} {σ : St} {env : List Sl} {c : Nat} (R : Rep K F γ H0 H σ env c) {i : Nat} {ds : List D} (e : env[i]? = some (.own ds)) : ∃ a vs, σ[i]? = some (some (.ref a)) ∧ H a = some (.lst vs) ∧ HasL K H0 vs ds ∧ vs.length ≤ sizeLine := by
  have hl := R.len
  obtain ⟨hi, _⟩ := List.getElem?_eq_some_iff.mp e
  have h2 : σ[i]? = some σ[i] := List.getElem?_eq_getElem (by omega)
  obtain ⟨a, _, e2, _, _, _, ha, vs, rfl, hz, hv⟩ := R.at_ i _ _ h2 e
  exact ⟨a, vs, by rw [h2, e2], ha, hv, hz⟩
theorem dsApp (i : Nat) {x : Str} {e : Expr} {we : WE} {p1 apos cpos : Pos} (he : PE X e (tG X.K F γ we)) (hN : X.N[i]? = some x := by rfl) (hv : Vis X.env.scope x := by first | exact Or.inl rfl | exact Or.inr (Or.inl rfl) | exact Or.inr (Or.inr rfl)) (hd : (x == ("__debug__" : Str)) = false := by decide)
    (hcd : (x == ("__classdict__" : Str)) = false := by decide) (hbase : attributeBase (.Name x p1) "append" X.env (eval (.Name x p1) X.env) = eval (.Name x p1) X.env := by rfl)
    (hfew : ((backTo cpos (starEach [e] X.env)).all (fun x => !x.1) && (backToKw cpos (keywordEach [] X.env)).all (fun x => x.1.isSome)
      && decide ([e].length + ([] : List Keyword).length + (if ([] : List Keyword).isEmpty then 0 else 1) < 30)) = true := by rfl)
    (hline : (apos.endLine == cpos.line) = true := by rfl) (hs : starEach [e] X.env = (false, eval e X.env) :: starEach [] X.env := by rfl) (hplain : (backTo cpos (starEach [] X.env)).any (·.1) = false := by rfl) (hsw : swapsWith (.Call (.Attribute (.Name x p1) "append" apos) [e] [] cpos) none pos.line X.env = pure false := by rfl) :
    PS X (.Expr (.Call (.Attribute (.Name x p1) "append" apos) [e] [] cpos) pos) (tS X.K F γ (wApp i we)) := by
  refine PS.imp (ps_expr (pe_bm PySem.F.plainAttrs_list PySem.F.slot_list_append PySem.F.type_list_append mt_append (pe_var hN hv hd hcd) (pa_cons he pa_nil hs) hbase hfew hline hs hplain) hsw) fun E σ H h => ?_
  obtain ⟨H0, env, c, D, R, ⟨ds, e1, q⟩, k1, k2, k3, k4⟩ := h
  obtain ⟨a, vs, s1, a1, v1, z1⟩ := R.own_at e1
  refine ⟨.ref a, s1, .inl ⟨rfl, vs, .inl (.inl a1)⟩, H0, env, c, _, R, q, fun d c1 v H1 H01 ⟨lt, q1⟩ s2 R1 h1 => ?_⟩
  obtain ⟨a', vs', s1', a2, v2, z2⟩ := R1.own_at e1
  rw [s1] at s1'
  cases s1'
  refine ⟨a, vs', v, rfl, rfl, a2, by rw [v2.length]; exact lt, k1 _ _ _ _ _ q1 s2 (R1.writeOwn s1 e1 ?_ (v2.append (.cons h1 .nil)))⟩
  rw [List.length_append, List.length_singleton, v2.length]
  omega
/-- x[i] = v -/
def wSetIt (i : Nat) (wi w : WE) : WS := fun E env c => w env c fun d c1 => ∃ ds, env[i]? = some (.own ds) ∧ wi env c1 fun j c2 => ∃ n, j = .int n ∧ 0 ≤ n ∧ n.toNat < ds.length ∧ E.nx (env.set i (.own (ds.set n.toNat d))) c2
/-- len(x), x[i] of such a list, and its truth -/
def wLenO (i : Nat) : WE := fun env c P => ∃ ds, env[i]? = some (.own ds) ∧ P (.int ds.length) c
def wIxO (i : Nat) (w : WE) : WE := fun env c P => ∃ ds, env[i]? = some (.own ds) ∧ w env c fun j c1 => ∃ n d, j = .int n ∧ 0 ≤ n ∧ ds[n.toNat]? = some d ∧ P d c1
end

end L2.DL

set_option Elab.async false
set_option linter.all false
set_option autoImplicit false
set_option maxRecDepth 100000
namespace L2.DL
open PySem PySem.Spec PyProof.Rows
/-! ### what a def promises -/
abbrev TP := List D → (D → Prop) → Prop
abbrev TGa := List D → Nat → (D → Nat → Prop) → Prop
def spP (K : PySem.W.Frag) (TB : List (Addr × Str)) (n : Nat) (T : TP) : Sp := fun vs H Q _ => ∃ F gr H0 ds P, Core K F ⟨none, gr, TB, none⟩ H0 H 0 ∧ HasL K H0 vs ds ∧ ds.length = n ∧ T ds P ∧
  ∀ d v H' H0', P d → Same H0 H0' → Core K F ⟨none, gr, TB, none⟩ H0' H' 0 → Has K H0' v d → Q v H'
/-- with a gauge ahead of the data -/
def spG (K : PySem.W.Frag) (TB : List (Addr × Str)) (n : Nat) (T : TGa) : Sp := fun vs H Q _ => ∃ F g gr us H0 ds c P, vs = V.ref g :: us ∧ Core K F ⟨some g, gr, TB, none⟩ H0 H c ∧ HasL K H0 us ds ∧ ds.length = n ∧ T ds c P ∧
  ∀ d c' v H' H0', P d c' → Same H0 H0' → Core K F ⟨some g, gr, TB, none⟩ H0' H' c' → Has K H0' v d → Q v H'
def wP (w : WS) (m : Nat) : TP := fun ds P => w ⟨fun _ _ => P .non, fun d _ => P d, fun _ _ => False, fun _ _ => False⟩ (ds.map .val ++ List.replicate m .no) 0
def wG (w : WS) (m : Nat) : TGa := fun ds c P => w ⟨fun _ c' => P .non c', P, fun _ _ => False, fun _ _ => False⟩ (.gau :: (ds.map .val ++ List.replicate m .no)) c
theorem spP.len {K : PySem.W.Frag} {TB : List (Addr × Str)} {n : Nat} {T : TP} {vs : List V} {H : Hp} {Q : VK} {E : XK} (h : spP K TB n T vs H Q E) : vs.length = n := by
  obtain ⟨F, gr, H0, ds, P, _, hl, e, _⟩ := h
  rw [hl.length, e]
theorem spG.len {K : PySem.W.Frag} {TB : List (Addr × Str)} {n : Nat} {T : TGa} {vs : List V} {H : Hp} {Q : VK} {E : XK} (h : spG K TB n T vs H Q E) : vs.length = n + 1 := by
  obtain ⟨F, g, gr, us, H0, ds, c, P, rfl, _, hl, e, _⟩ := h
  rw [List.length_cons, hl.length, e]
/-! ### a def that runs where no repr is under way -/
structure FnG (P : Program) (w : World) (K : PySem.W.Frag) (mg : Str → Option Value) (base : Heap) (CX : CXT) (k : Nat) (f : Addr) (fd : FuncData) (ps : List Str) (sp : Sp) : Prop where
  len : ∀ vs H Q E, sp vs H Q E → vs.length = ps.length
  run : ∀ (A : Around) (out : List Env) (s : Shared) (H : Hp) (ar : Args) (us : List Value) (vs : List V) (Q : VK) (E : XK), Room k A → A.guards = some [] → Env0 P w K mg base A out s H →
    BindsTo s fd ar (ps.zip us) → Vals vs us → sp vs H Q E → codeAny (model P w) A (.call (.ref f) ar) (CR CX out P w H s Q E) s
section
variable {P : Program} {w : World} {K : PySem.W.Frag} {mg : Str → Option Value} {base : Heap} {CX : CXT} {k : Nat} {f : Addr} {fd : FuncData} {ps : List Str} {sp sp' : Sp}
theorem FnG.up {j : Nat} (G : FnG P w K mg base CX j f fd ps sp) (h : j ≤ k) : FnG P w K mg base CX k f fd ps sp :=
  ⟨G.len, fun A out s H ar us vs Q E hr => G.run A out s H ar us vs Q E (hr.mono h)⟩
theorem FnG.to (G : FnG P w K mg base CX k f fd ps sp) (h : ∀ vs H Q E, sp' vs H Q E → sp vs H Q E) : FnG P w K mg base CX k f fd ps sp' :=
  ⟨fun vs H Q E q => G.len vs H Q E (h _ _ _ _ q), fun A out s H ar us vs Q E hr hg he hb hv hs => G.run A out s H ar us vs Q E hr hg he hb hv (h _ _ _ _ hs)⟩
theorem FnG.ofOk (G : FnOk P w K mg base CX k f fd ps sp) : FnG P w K mg base CX k f fd ps sp :=
  ⟨G.len, fun A out s H ar us vs Q E hr _ he hb hv hs => G.run A out s H ar us vs Q E hr he hb hv hs⟩
/-- by its body -/
theorem fnG_of {name qual : Str} {params : Arguments} {body : List Stmt} {sc : Scope} {dV kV doc pm cdv ct oc : Value} {an od : Option Addr} {osl : Array (Option Value)} {N : List Str}
    (lk : K.lookup f = some ⟨oc, od, .func (PySem.W.fnOf name qual params body sc dV kV doc pm an cdv ct), osl⟩)
    (hcd : PySem.W.codeIn K cdv qual = true) (S : FnScope N ps sc) (len : ∀ vs H Q E, sp vs H Q E → vs.length = ps.length)
    (hbody : ∀ (A : Around) (out : List Env) (s : Shared) (H : Hp) (vs : List V) (Q : VK) (E : XK), Room k (A.deeper (envOfC qual sc s.heap.objs.size f cdv)) →
      (A.deeper (envOfC qual sc s.heap.objs.size f cdv)).guards = some [] → sp vs H Q E →
      ∃ t, PSs (cxOf CX P w K mg base N qual sc f cdv A out s H E) body t ∧ t { nx := fun _ H' => Q .non H', rt := Q } (start N vs) H) :
    FnG P w K mg base CX (k + 1) f (PySem.W.fnOf name qual params body sc dV kV doc pm an cdv ct) ps sp := by
  refine ⟨len, fun A out s H ar us vs Q E hr hg e0 hb rel hsp => ?_⟩
  have hlen := len _ _ _ _ hsp
  have inK : K.In s.heap := e0.mod.kin.keeps (fun b o e => (e0.bs b o e).left)
  have nolim : s.heap.NoLimit := e0.mod.nolimit.keeps (fun b o e => (e0.bs b o e).left)
  have kinds : ∀ y ∈ ps.zip us, sc.names.lookup y.1 = some .local ∨
      (sc.names.lookup y.1 = some .cell ∧ ((cellsFrom (s.heap.objs.size + 1) sc.names []).lookup y.1).isSome = true) := by
    rintro ⟨n, v⟩ hy
    cases S.par n (List.of_mem_zip hy).left with
    | inl q => exact Or.inl q
    | inr q => exact Or.inr ⟨q, PySem.W.cellsFrom_some _ _ _ (Or.inl q)⟩
  refine codeAny_call_function hr.depth (inK _ _ lk) rfl S.co S.gen rfl
    (PySem.W.codeRec_of inK hcd) (hb _ _ _ _ ?_)
  refine wpAny_newFunctionEnv_cells S.kind kinds (fun env he s1 x => ?_)
  subst he
  refine ⟨nolim.keeps x.toInCall.keep, codeAny_func ?_⟩
  obtain ⟨t, ht, hq⟩ := hbody A out s H vs Q E (Room.deeper hr _) hg hsp
  have I : Inv (cxOf CX P w K mg base N qual sc f cdv A out s H E) [] (start N vs) H s1 :=
    inv_start S hr.hd e0 hlen rel x
  have done : ∀ {σ' : St} {H' : Hp} {v : V} {u : Value} {s' : Shared}, Inv (cxOf CX P w K mg base N qual sc f cdv A out s H E) [] σ' H' s' → RelV v u → Q v H' →
      CE out P w H s Q u s' := by
    intro σ' H' v u s' J rv q
    exact ⟨v, H', J.os, J.bare, J.base, J.hok, rv, q⟩
  refine wpAny_mono (ht.run [] s1 (start N vs) H _ I hq) (fun fl s' hs => ?_) (fun e s' hs => hs)
  match fl, hs with
  | .ret u, ⟨v, σ', H', J, rv, q⟩ => exact done J rv q
  | .next, ⟨σ', H', J, q⟩ => exact done (v := V.non) (u := Value.none) J rfl q
  | .brk, ⟨_, _, _, q⟩ => exact (show False from q).elim
  | .cont, ⟨_, _, _, q⟩ => exact (show False from q).elim
end
section
variable {X : Cx} {CX : CXT} {k : Nat} {f : Addr} {fd : FuncData} {ps ks : List Str} {sp : Sp} {dvs : List V} {ds : List Value} {E : XK} {x : Str} {p pos : Pos} {e : Expr} {es : List Expr} {t tk : TA} {kws : List Keyword} {g : List Value → List Value → List Value} {gV : List V → List V → List V}
/-- what comes of a callee -/
theorem comes {pins : List (Addr × Obj)} {σ : St} {H : Hp} {s s' : Shared} {Q : VK} (hx : Passes CX X E) (I : Inv X pins σ H s) {r : Result} (hq : CR CX X.stack X.prog X.w H s Q E r s') :
    (∃ u, r = .ok (.ret u) ∧ EP X pins σ Q u s') ∨ (∃ er, r = .error er ∧ X.xe er s') := by
  match r, hq with
  | .error er, hq => exact Or.inr ⟨er, rfl, hx pins σ H s er s' I hq⟩
  | .ok (.ret u), hq => exact Or.inl ⟨u, rfl, I.after hq⟩
  | .ok .next, hq => exact (show False from hq).elim
  | .ok .brk, hq => exact (show False from hq).elim
  | .ok .cont, hq => exact (show False from hq).elim
theorem runG {pins : List (Addr × Obj)} {σ : St} {H : Hp} {s : Shared} {Q : VK} {us : List Value} {vs : List V} (G : FnG X.prog X.w X.K X.mg X.base CX k f fd ps sp) (hr : Room k X.A) (hgd : X.A.guards = some []) (hb : Binds X.K fd ps ds) (hd : Vals dvs ds) (hx : Passes CX X E)
    (I : Inv X pins σ H s) (r : Vals vs us) (h : sp (vs ++ dvs) H Q E) : wpAny (model X.prog X.w) X.A (call (.ref f) us) (EP X pins σ Q) X.xe s := by
  have rel : Vals (vs ++ dvs) (us ++ ds) := r.append hd
  have hlen : (us ++ ds).length = ps.length := rel.length.symm.trans (G.len _ _ _ _ h)
  refine wpAny_call (codeAny_mono (G.run X.A X.stack s H ⟨us, []⟩ _ _ Q E hr hgd I.env0 (hb s us I.kIn hlen) rel h) fun r s' hq => ?_)
  rcases comes hx I hq with ⟨u, rfl, q⟩ | ⟨er, rfl, q⟩
  · exact q
  · exact q
theorem runGk {pins : List (Addr × Obj)} {σ : St} {H : Hp} {s : Shared} {Q : VK} {us ws : List Value} {vs zs : List V} (G : FnG X.prog X.w X.K X.mg X.base CX k f fd ps sp) (hr : Room k X.A) (hgd : X.A.guards = some []) (hb : KBinds X.K fd ps ks g gV) (hx : Passes CX X E)
    (I : Inv X pins σ H s) (r : Vals vs us) (rz : Vals zs ws) (h : sp (gV vs zs) H Q E) : wpAny (model X.prog X.w) X.A (call (.ref f) us (ks.zip ws)) (EP X pins σ Q) X.xe s := by
  have rel := hb.rel r rz
  have hlen : (g us ws).length = ps.length := rel.length.symm.trans (G.len _ _ _ _ h)
  refine wpAny_call (codeAny_mono (G.run X.A X.stack s H ⟨us, ks.zip ws⟩ _ _ Q E hr hgd I.env0 (hb.to s us ws I.kIn hlen) rel h) fun r s' hq => ?_)
  rcases comes hx I hq with ⟨u, rfl, q⟩ | ⟨er, rfl, q⟩
  · exact q
  · exact q
theorem pe_callG (G : FnG X.prog X.w X.K X.mg X.base CX k f fd ps sp) (hr : Room k X.A) (hgd : X.A.guards = some []) (hm : X.mg x = some (.ref f)) (hk : PySem.W.keepIn X.K (.ref f) = true) (hb : Binds X.K fd ps ds) (hd : Vals dvs ds) (hx : Passes CX X E) (ha : PA X (e :: es) t) (hg : Gl X x)
    (hdb : (x == ("__debug__" : Str)) = false) (he : starEach (e :: es) X.env = (false, eval e X.env) :: starEach es X.env) (hpl : (backTo pos (starEach es X.env)).any (·.1) = false) :
    PE X (.Call (.Name x p) (e :: es) [] pos) (tCall sp dvs E t) := ⟨fun pins s σ H Q I h => wpAny_Call_Name_kw (ld_glob I hg hm
      (PySem.W.callWith_K (h₀ := X.base) I.ok.mod.kin hk (thn (ha.run pos pins s σ H _ I h) fun us s1 ⟨vs, H1, I1, r, q⟩ => ⟨I1.kIn, runG G hr hgd hb hd hx I1 r q⟩) he hpl) hdb)⟩
theorem pe_callG0 (G : FnG X.prog X.w X.K X.mg X.base CX k f fd ps sp) (hr : Room k X.A) (hgd : X.A.guards = some []) (hm : X.mg x = some (.ref f)) (hk : PySem.W.keepIn X.K (.ref f) = true) (hb : Binds X.K fd ps ds) (hd : Vals dvs ds) (hx : Passes CX X E) (hg : Gl X x)
    (hdb : (x == ("__debug__" : Str)) = false) : PE X (.Call (.Name x p) [] [] pos) (tCall sp dvs E tNil) := ⟨fun pins s σ H Q I h => wpAny_Call_Name_kw (ld_glob I hg hm
      (PySem.W.callWith_K0 I.kIn hk (runG (us := []) G hr hgd hb hd hx I .nil h)) hdb)⟩
end
/-- without a gauge the count is free -/
theorem Core.g0 {K : PySem.W.Frag} {F : Hp} {γ : Gm} {H0 H : Hp} {c c' : Nat} (C : Core K F γ H0 H c) (h : γ.g = none) : Core K F γ H0 H c' := ⟨C.sub, C.frm, (fun g e => by rw [h] at e; exact absurd e (by simp)), C.grd, C.tbs, C.tb0⟩
theorem start_rep {K : PySem.W.Frag} {F : Hp} {γ : Gm} {H0 H : Hp} {c : Nat} (C : Core K F γ H0 H c) {N : List Str} {vs : List V} {es : List Sl} {m : Nat} (hN : N.length = vs.length + m) (hl : vs.length = es.length)
    (ha : ∀ (i : Nat) (v : V) (sl : Sl), vs[i]? = some v → es[i]? = some sl → SlOk K F γ H0 H (some v) sl) (hno : ∀ (i : Nat) (ds : OT), es[i]? ≠ some (.ow ds)) :
    Rep K F γ H0 H (start N vs) (es ++ List.replicate m .no) c := by
  have hm : N.length - vs.length = m := by omega
  unfold start
  rw [hm]
  refine ⟨C, by simp [hl], fun i o sl h1 h2 => ?_, fun i j a ds es' n h1 h2 h3 h4 => ?_⟩
  · by_cases hi : i < es.length
    · rw [List.getElem?_append_left (by rw [List.length_map]; omega), List.getElem?_map] at h1
      rw [List.getElem?_append_left hi] at h2
      cases e : vs[i]? with
      | none => rw [e] at h1; cases h1
      | some v =>
        rw [e] at h1
        cases h1
        exact ha i v sl e h2
    · rw [List.getElem?_append_right (by omega), List.getElem?_replicate] at h2
      split at h2
      · cases h2; trivial
      · cases h2
  · by_cases hi : i < es.length
    · rw [List.getElem?_append_left hi] at h2
      exact hno i ds h2
    · rw [List.getElem?_append_right (by omega), List.getElem?_replicate] at h2
      split at h2 <;> cases h2
section
variable {P : Program} {w : World} {K : PySem.W.Frag} {mg : Str → Option Value} {base : Heap} {x qual : Str} {st : Stmt} {f : Addr} {fd : FuncData} {N ps : List Str} {k m : Nat} {wb : WS} {TB : List (Addr × Str)}
theorem vals_slot {F : Hp} {γ : Gm} {H0 H : Hp} {vs : List V} {ds : List D} (hl : HasL K H0 vs ds) : ∀ (i : Nat) (v : V) (sl : Sl), vs[i]? = some v → (ds.map Sl.val)[i]? = some sl → SlOk K F γ H0 H (some v) sl := fun i v sl h1 h2 => by
  obtain ⟨d, e, hd⟩ := hl.get h1
  rw [List.getElem?_map, e] at h2
  cases h2
  exact ⟨v, rfl, hd⟩
theorem vals_no {ds : List D} : ∀ (i : Nat) (es : OT), (ds.map Sl.val)[i]? ≠ some (.ow es) := fun i es h => by
  rw [List.getElem?_map] at h
  cases e : ds[i]? with
  | none => rw [e] at h; cases h
  | some d => rw [e] at h; cases h
theorem bodyP {vs : List V} {H : Hp} {Q : VK} {E : XK} (hN : N.length = ps.length + m) (h : spP K TB ps.length (wP wb m) vs H Q E) : ∃ F gr, tS K F ⟨none, gr, TB, none⟩ wb { nx := fun _ H' => Q .non H', rt := Q } (start N vs) H := by
  have hl := h.len
  obtain ⟨F, gr, H0, ds, P, C, hv, hn, hT, hQ⟩ := h
  refine ⟨F, gr, H0, _, 0, _, start_rep C (by omega) (by rw [List.length_map]; exact hv.length) (vals_slot hv) vals_no, hT, ?_, ?_, ?_, ?_⟩
  · exact fun σ' env' c' H' H0' q s1 R1 => hQ .non .non H' H0' q s1 (R1.core.g0 rfl) .non
  · exact fun d c' v H' H0' q s1 C1 h1 => hQ d v H' H0' q s1 (C1.g0 rfl) h1
  · exact fun _ _ _ _ _ q => False.elim q
  · exact fun _ _ _ _ _ q => False.elim q
theorem bodyG {vs : List V} {H : Hp} {Q : VK} {E : XK} {n : Nat} (hn : ps.length = n + 1) (hN : N.length = ps.length + m) (h : spG K TB n (wG wb m) vs H Q E) : ∃ F g gr, tS K F ⟨some g, gr, TB, none⟩ wb { nx := fun _ H' => Q .non H', rt := Q } (start N vs) H := by
  have hl := h.len
  obtain ⟨F, g, gr, us, H0, ds, c, P, rfl, C, hv, hn, hT, hQ⟩ := h
  rw [List.length_cons] at hl
  refine ⟨F, g, gr, H0, _, c, _, start_rep (es := .gau :: ds.map .val) C (by rw [List.length_cons]; omega) (by rw [List.length_cons, List.length_cons, List.length_map, hv.length]) ?_ ?_, hT, ?_, ?_, ?_, ?_⟩
  · intro i v sl h1 h2
    cases i with
    | zero =>
      cases h1; cases h2
      exact ⟨g, rfl, rfl⟩
    | succ i => exact vals_slot hv i v sl (by simpa using h1) (by simpa using h2)
  · intro i es h
    cases i with
    | zero => cases h
    | succ i => exact vals_no (ds := ds) i es (by rw [List.getElem?_cons_succ] at h; exact h)
  · exact fun σ' env' c' H' H0' q s1 R1 => hQ .non c' .non H' H0' q s1 R1.core .non
  · exact fun d c' v H' H0' q s1 C1 h1 => hQ d c' v H' H0' q s1 C1 h1
  · exact fun _ _ _ _ _ q => False.elim q
  · exact fun _ _ _ _ _ q => False.elim q
theorem dFnP (Fn : Fun K x qual st f fd) (S : FnScope N ps (defScope st)) (hN : N.length = ps.length + m)
    (hb : ∀ (cdv : Value) (A : Around) (outer : List Env) (s : Shared) (H : Hp) (E : XK) (F gr : Hp), Room k (A.deeper (envOfC qual (defScope st) s.heap.objs.size f cdv)) → (A.deeper (envOfC qual (defScope st) s.heap.objs.size f cdv)).guards = some [] →
      PSs (cxOf CX0 P w K mg base N qual (defScope st) f cdv A outer s H E).nox (defBody st) (tS K F ⟨none, gr, TB, none⟩ wb)) :
    FnG P w K mg base CX0 (k + 1) f fd ps (spP K TB ps.length (wP wb m)) := by
  obtain ⟨oc, od, kV, doc, pm, an, cdv, ct, osl, rfl, lk, hcd⟩ := Fn.ex
  refine fnG_of lk hcd S (fun vs H Q E h => h.len) fun A outer s H vs Q E hr hgd h => ?_
  obtain ⟨F, gr, q⟩ := bodyP hN h
  exact ⟨_, (hb cdv A outer s H E F gr hr hgd).nox, q⟩
theorem dFnG {n : Nat} (Fn : Fun K x qual st f fd) (S : FnScope N ps (defScope st)) (hn : ps.length = n + 1) (hN : N.length = ps.length + m)
    (hb : ∀ (cdv : Value) (A : Around) (outer : List Env) (s : Shared) (H : Hp) (E : XK) (F : Hp) (g : Addr) (gr : Hp), Room k (A.deeper (envOfC qual (defScope st) s.heap.objs.size f cdv)) → (A.deeper (envOfC qual (defScope st) s.heap.objs.size f cdv)).guards = some [] →
      PSs (cxOf CX0 P w K mg base N qual (defScope st) f cdv A outer s H E).nox (defBody st) (tS K F ⟨some g, gr, TB, none⟩ wb)) :
    FnG P w K mg base CX0 (k + 1) f fd ps (spG K TB n (wG wb m)) := by
  obtain ⟨oc, od, kV, doc, pm, an, cdv, ct, osl, rfl, lk, hcd⟩ := Fn.ex
  refine fnG_of lk hcd S (fun vs H Q E h => h.len.trans hn.symm) fun A outer s H vs Q E hr hgd h => ?_
  obtain ⟨F, g, gr, q⟩ := bodyG hn hN h
  exact ⟨_, (hb cdv A outer s H E F g gr hr hgd).nox, q⟩
/-- a def with defaults -/
theorem dFnPD {params : Arguments} {body : List Stmt} {scope : Scope} {dvs : List V} {kws : List (Str × V)} (Fn : FunD K x qual params body scope dvs kws f fd) (S : FnScope N ps scope) (hN : N.length = ps.length + m)
    (hb : ∀ (cdv : Value) (A : Around) (outer : List Env) (s : Shared) (H : Hp) (E : XK) (F gr : Hp), Room k (A.deeper (envOfC qual scope s.heap.objs.size f cdv)) → (A.deeper (envOfC qual scope s.heap.objs.size f cdv)).guards = some [] →
      PSs (cxOf CX0 P w K mg base N qual scope f cdv A outer s H E).nox body (tS K F ⟨none, gr, TB, none⟩ wb)) :
    FnG P w K mg base CX0 (k + 1) f fd ps (spP K TB ps.length (wP wb m)) := by
  obtain ⟨oc, od, dV, kV, doc, pm, an, cdv, ct, osl, rfl, lk, hcd, _, _⟩ := Fn.ex
  refine fnG_of lk hcd S (fun vs H Q E h => h.len) fun A outer s H vs Q E hr hgd h => ?_
  obtain ⟨F, gr, q⟩ := bodyP hN h
  exact ⟨_, (hb cdv A outer s H E F gr hr hgd).nox, q⟩
/-- a promise by a plain word -/
theorem FnG.toP {TB : List (Addr × Str)} {n : Nat} {T T' : TP} (G : FnG P w K mg base CX0 k f fd ps (spP K TB n T)) (h : ∀ ds P, ds.length = n → T' ds P → T ds P) : FnG P w K mg base CX0 k f fd ps (spP K TB n T') :=
  G.to fun vs H Q E ⟨F, gr, H0, ds, P, C, hv, hn, hT, hQ⟩ => ⟨F, gr, H0, ds, P, C, hv, hn, h ds P hn hT, hQ⟩
theorem FnG.toG {TB : List (Addr × Str)} {n : Nat} {T T' : TGa} (G : FnG P w K mg base CX0 k f fd ps (spG K TB n T)) (h : ∀ ds c P, ds.length = n → T' ds c P → T ds c P) : FnG P w K mg base CX0 k f fd ps (spG K TB n T') :=
  G.to fun vs H Q E ⟨F, g, gr, us, H0, ds, c, P, e, C, hv, hn, hT, hQ⟩ => ⟨F, g, gr, us, H0, ds, c, P, e, C, hv, hn, h ds c P hn hT, hQ⟩
end

/-! ### calls -/
/-- what of the heap a callee need not know -/
def offOf (tb : List (Addr × Str)) (H0 H : Hp) : Hp := fun b => if b ∈ tb.map (·.1) then none else match H0 b with | some _ => none | none => H b
theorem off_tab {T : List (Addr × Str)} {H0 H : Hp} : ∀ p ∈ T, offOf T H0 H p.1 = none := fun p hp => by
  unfold offOf
  rw [if_pos (List.mem_map.mpr ⟨p, hp, rfl⟩)]
def offOfG (tb : List (Addr × Str)) (H0 H : Hp) (g : Addr) : Hp := fun b => if b = g then none else offOf tb H0 H b
theorem offOf_some {T : List (Addr × Str)} {H0 H : Hp} {b : Addr} {o : HO} (h : H b = some o) (z : H0 b = none) (n : ∀ p ∈ T, p.1 ≠ b) : offOf T H0 H b = some o := by
  unfold offOf
  rw [if_neg (fun hm => by
    obtain ⟨p, hp, e⟩ := List.mem_map.mp hm
    exact n p hp e), z]
  exact h
theorem offOf_inv {T : List (Addr × Str)} {H0 H : Hp} {b : Addr} {o : HO} (h : offOf T H0 H b = some o) : H b = some o ∧ H0 b = none := by
  unfold offOf at h
  split at h
  · cases h
  · cases e : H0 b with
    | none => rw [e] at h; exact ⟨h, rfl⟩
    | some u => rw [e] at h; cases h
section
variable {K : PySem.W.Frag} {F : Hp} {γ : Gm} {H0 H H0' H' : Hp} {σ : St} {env : List Sl} {c c' : Nat} {g : Addr}
theorem Core.forP (C : Core K F γ H0 H c) : Core K (offOf γ.tb H0 H) ⟨none, H0, γ.tb, none⟩ H0 H 0 := ⟨C.sub, fun _ _ e => offOf_inv e, fun _ e => (by cases e), Same.refl _, C.tbs, fun p hp => ⟨(C.tb0 p hp).1, off_tab p hp⟩⟩
theorem Core.neF (C : Core K F γ H0 H c) {b : Addr} {o : HO} (e : F b = some o) : ∀ p ∈ γ.tb, p.1 ≠ b := fun p hp z => by
  have := (C.tb0 p hp).2
  rw [z, e] at this; cases this
theorem Rep.after (R : Rep K F γ H0 H σ env c) (C : Core K (offOf γ.tb H0 H) ⟨none, H0, γ.tb, none⟩ H0' H' 0) (s : Same H0 H0') : Rep K F γ H0' H' σ env c := by
  have keep : ∀ b o, H b = some o → H0 b = none → (∀ p ∈ γ.tb, p.1 ≠ b) → H' b = some o ∧ H0' b = none := fun b o h z n => C.frm b o (offOf_some h z n)
  refine ⟨⟨C.sub, fun b o e => ?_, fun g e => ?_, R.core.grd.trans s, C.tbs, fun p hp => ⟨(C.tb0 p hp).1, (R.core.tb0 p hp).2⟩⟩, R.len, fun i o sl h1 h2 => ?_, R.dis⟩
  · obtain ⟨h, z⟩ := R.core.frm b o e
    exact keep b o h z (R.core.neF e)
  · obtain ⟨x, y, G⟩ := R.core.gau g e
    obtain ⟨ca, cs, i, r, h1, _⟩ := id G
    obtain ⟨h2, z2⟩ := keep g _ h1 y (Tabs.ne R.core.tbs h1 noTab_lst)
    exact ⟨x, z2, G.mono s (by rw [h2, h1]) (Nat.le_refl _)⟩
  · have q := R.at_ i o sl h1 h2
    cases sl with
    | no => trivial
    | val d => obtain ⟨v, e, q⟩ := q; exact ⟨v, e, q.mono s⟩
    | ow ds =>
      obtain ⟨a, vs, e, g, fa, h0, ha, hv⟩ := q
      obtain ⟨h3, z3⟩ := keep a _ ha h0 (Tabs.ne R.core.tbs ha hv.noTab)
      exact ⟨a, vs, e, g, fa, z3, h3, hv.mono s⟩
    | gau => exact q
    | lam => exact q
    | scr => first | exact q | exact ScrOk.mono q (by assumption) | exact ScrOk.mono q (Same.new (by assumption)) | exact ScrOk.mono q (Same.new O.z)
    | gx cs i' r =>
      obtain ⟨g, ca, e, eg, hg, q⟩ := q
      exact ⟨g, ca, e, eg, (keep g _ hg (R.core.gau g eg).2.1 (Tabs.ne R.core.tbs hg noTab_lst)).1, q.mono s⟩
theorem Core.forG (hγ : γ.g = some g) (C : Core K F γ H0 H c) : Core K (offOfG γ.tb H0 H g) ⟨some g, H0, γ.tb, none⟩ H0 H c := by
  refine ⟨C.sub, fun b o e => ?_, fun g' e => ?_, Same.refl _, C.tbs, fun p hp => ⟨(C.tb0 p hp).1, by
    unfold offOfG
    split
    · rfl
    · exact off_tab p hp⟩⟩
  · unfold offOfG at e
    by_cases hb : b = g
    · rw [if_pos hb] at e; cases e
    · rw [if_neg hb] at e; exact offOf_inv e
  · cases e
    obtain ⟨x, y, G⟩ := C.gau g hγ
    exact ⟨by unfold offOfG; rw [if_pos rfl], y, G⟩
def Sl.ngx : Sl → Bool | .gx _ _ _ => false | _ => true
def noGx : List Sl → Bool
  | [] => true
  | sl :: r => sl.ngx && noGx r
theorem noGx_mem : ∀ {env : List Sl}, noGx env = true → ∀ sl ∈ env, sl.ngx = true
  | [], _, sl, h => by cases h
  | a :: r, e, sl, h => by
    have e' : (a.ngx && noGx r) = true := e
    rw [Bool.and_eq_true] at e'
    rcases List.mem_cons.mp h with z | z
    · rw [z]; exact e'.1
    · exact noGx_mem e'.2 sl z
theorem Rep.afterG (hγ : γ.g = some g) (nx : noGx env = true) (R : Rep K F γ H0 H σ env c) (C : Core K (offOfG γ.tb H0 H g) ⟨some g, H0, γ.tb, none⟩ H0' H' c') (s : Same H0 H0') : Rep K F γ H0' H' σ env c' := by
  have keep : ∀ b o, b ≠ g → H b = some o → H0 b = none → (∀ p ∈ γ.tb, p.1 ≠ b) → H' b = some o ∧ H0' b = none := fun b o n h z m => C.frm b o (by unfold offOfG; rw [if_neg n]; exact offOf_some h z m)
  obtain ⟨xg, yg, Gg⟩ := R.core.gau g hγ
  obtain ⟨xg', yg', Gg'⟩ := C.gau g rfl
  refine ⟨⟨C.sub, fun b o e => ?_, fun g' e => ?_, R.core.grd.trans s, C.tbs, fun p hp => ⟨(C.tb0 p hp).1, (R.core.tb0 p hp).2⟩⟩, R.len, fun i o sl h1 h2 => ?_, R.dis⟩
  · obtain ⟨h, z⟩ := R.core.frm b o e
    exact keep b o (fun q => by rw [q, xg] at e; cases e) h z (R.core.neF e)
  · rw [hγ] at e
    cases e
    exact ⟨xg, yg', Gg'⟩
  · have q := R.at_ i o sl h1 h2
    cases sl with
    | no => trivial
    | val d => obtain ⟨v, e, q⟩ := q; exact ⟨v, e, q.mono s⟩
    | ow ds =>
      obtain ⟨a, vs, e, g, fa, h0, ha, hv⟩ := q
      obtain ⟨h3, z3⟩ := keep a _ (fun q => g (by rw [q]; exact hγ)) ha h0 (Tabs.ne R.core.tbs ha hv.noTab)
      exact ⟨a, vs, e, g, fa, z3, h3, hv.mono s⟩
    | gau => exact q
    | lam => exact q
    | scr => first | exact q | exact ScrOk.mono q (by assumption) | exact ScrOk.mono q (Same.new (by assumption)) | exact ScrOk.mono q (Same.new O.z)
    | gx cs i' r =>
      have := noGx_mem nx _ (List.mem_of_getElem? h2)
      exact Bool.noConfusion this
end
section
variable {X : Cx} {F : Hp} {γ : Gm} {pos p : Pos} {k n : Nat} {f : Addr} {fd : FuncData} {ps : List Str} {x : Str} {e : Expr} {es : List Expr} {wa : WA}
/-- f(..) of data alone; dds: the defaults that fill up -/
def wCall (n : Nat) (T : TP) (dds : List D) (wa : WA) : WE := fun env c P => wa env c fun ds c1 => (ds ++ dds).length = n ∧ T (ds ++ dds) fun d => P d c1
/-- f(gauge, ..) -/
def wCallG (n : Nat) (T : TGa) (i : Nat) (wa : WA) : WE := fun env c P => env[i]? = some .gau ∧ noGx env = true ∧ wa env c fun ds c1 => ds.length = n ∧ T ds c1 P
theorem callP_read {K : PySem.W.Frag} {T : TP} {dvs : List V} {dds : List D} (hd : ∀ H, HasL K H dvs dds) {σ : St} {H : Hp} {Q : VK} (h : tG K F γ (wCall n T dds wa) σ H Q) : tCall (spP K γ.tb n T) dvs E0 (tA K F γ wa) σ H Q := by
  obtain ⟨H0, env, c, P, R, q, k⟩ := h
  refine ⟨H0, env, c, _, R, q, fun ds c1 vs H1 H01 ⟨hn, q1⟩ s1 R1 h1 => ?_⟩
  refine ⟨_, _, H01, ds ++ dds, _, R1.core.forP, h1.append (hd _), hn, q1, fun d v H' H0' q2 s2 C2 h2 => ?_⟩
  exact k _ _ _ _ _ q2 (s1.trans s2) (R1.after C2 s2) h2
theorem dCall {T : TP} (G : FnG X.prog X.w X.K X.mg X.base CX0 k f fd ps (spP X.K γ.tb n T)) (hr : Room k X.A) (hgd : X.A.guards = some []) (hm : X.mg x = some (.ref f)) (hk : PySem.W.keepIn X.K (.ref f) = true) (hb : Binds X.K fd ps []) (ha : PA X (e :: es) (tA X.K F γ wa)) (hg : Gl X x := by rfl)
    (hdb : (x == ("__debug__" : Str)) = false := by decide) (he : starEach (e :: es) X.env = (false, eval e X.env) :: starEach es X.env := by rfl) (hpl : (backTo pos (starEach es X.env)).any (·.1) = false := by rfl) :
    PE X (.Call (.Name x p) (e :: es) [] pos) (tG X.K F γ (wCall n T [] wa)) := PE.imp (pe_callG G hr hgd hm hk hb .nil pass0 ha hg hdb he hpl) fun σ H Q h => callP_read (fun _ => .nil) h
theorem dCall0 {T : TP} (G : FnG X.prog X.w X.K X.mg X.base CX0 k f fd ps (spP X.K γ.tb n T)) (hr : Room k X.A) (hgd : X.A.guards = some []) (hm : X.mg x = some (.ref f)) (hk : PySem.W.keepIn X.K (.ref f) = true) (hb : Binds X.K fd ps []) (hg : Gl X x := by rfl)
    (hdb : (x == ("__debug__" : Str)) = false := by decide) :
    PE X (.Call (.Name x p) [] [] pos) (tG X.K F γ (wCall n T [] wNil)) := PE.imp (pe_callG0 G hr hgd hm hk hb .nil pass0 hg hdb) fun σ H Q h => by
  obtain ⟨H0, env, c, P, R, ⟨hn, q⟩, k⟩ := h
  refine ⟨_, _, H0, [], _, R.core.forP, .nil, hn, q, fun d v H' H0' q2 s2 C2 h2 => ?_⟩
  exact k _ _ _ _ _ q2 s2 (R.after C2 s2) h2
/-- .. with defaults -/
theorem dCallD {T : TP} {dvs : List V} {ds : List Value} {dds : List D} (G : FnG X.prog X.w X.K X.mg X.base CX0 k f fd ps (spP X.K γ.tb n T)) (hr : Room k X.A) (hgd : X.A.guards = some []) (hm : X.mg x = some (.ref f)) (hk : PySem.W.keepIn X.K (.ref f) = true) (hb : Binds X.K fd ps ds) (hd : Vals dvs ds) (hh : ∀ H, HasL X.K H dvs dds)
    (ha : PA X (e :: es) (tA X.K F γ wa)) (hg : Gl X x := by rfl)
    (hdb : (x == ("__debug__" : Str)) = false := by decide) (he : starEach (e :: es) X.env = (false, eval e X.env) :: starEach es X.env := by rfl) (hpl : (backTo pos (starEach es X.env)).any (·.1) = false := by rfl) :
    PE X (.Call (.Name x p) (e :: es) [] pos) (tG X.K F γ (wCall n T dds wa)) := PE.imp (pe_callG G hr hgd hm hk hb hd pass0 ha hg hdb he hpl) fun σ H Q h => callP_read hh h
theorem dCallG {T : TGa} {g0 : Expr} (i : Nat) (G : FnG X.prog X.w X.K X.mg X.base CX0 k f fd ps (spG X.K γ.tb n T)) (hr : Room k X.A) (hgd : X.A.guards = some []) (hm : X.mg x = some (.ref f)) (hk : PySem.W.keepIn X.K (.ref f) = true) (hb : Binds X.K fd ps []) (h0 : PE X g0 (tVar i)) (ha : PA X es (tA X.K F γ wa)) (hg : Gl X x := by rfl)
    (hdb : (x == ("__debug__" : Str)) = false := by decide) (he : starEach (g0 :: es) X.env = (false, eval g0 X.env) :: starEach es X.env := by rfl) (hpl : (backTo pos (starEach es X.env)).any (·.1) = false := by rfl) :
    PE X (.Call (.Name x p) (g0 :: es) [] pos) (tG X.K F γ (wCallG n T i wa)) := PE.imp (pe_callG G hr hgd hm hk hb .nil pass0 (pa_cons h0 ha he) hg hdb he hpl) fun σ H Q h => by
  obtain ⟨H0, env, c, P, R, ⟨eg, nx, q⟩, k⟩ := h
  have hl := R.len
  obtain ⟨hi, _⟩ := List.getElem?_eq_some_iff.mp eg
  have h2 : σ[i]? = some σ[i] := List.getElem?_eq_getElem (by omega)
  obtain ⟨g, e2, hγ⟩ := R.at_ i _ _ h2 eg
  refine ⟨.ref g, by rw [h2, e2], H0, env, c, _, R, q, fun ds c1 vs H1 H01 ⟨hn, q1⟩ s1 R1 h1 => ?_⟩
  show spG X.K γ.tb n T (V.ref g :: vs ++ []) H1 Q E0
  refine ⟨_, g, _, vs ++ [], H01, ds, c1, _, rfl, R1.core.forG hγ, by rw [List.append_nil]; exact h1, hn, q1, fun d c2 v H' H0' q2 s2 C2 h2 => ?_⟩
  exact k _ _ _ _ _ q2 (s1.trans s2) (Rep.afterG hγ nx R1 C2 s2) h2

/-! ### calls with keywords -/
theorem PK.imp {X : Cx} {kws : List Keyword} {t t' : TA} (h : PK X kws t) (hi : ∀ σ H Q, t' σ H Q → t σ H Q) : PK X kws t' := ⟨fun pos pins s σ H Q I hw => h.run pos pins s σ H Q I (hi _ _ _ hw)⟩
theorem dkNil : PK X [] (tA X.K F γ wNil) := PK.imp pk_nil fun σ H Q h => by
  obtain ⟨H0, env, c, P, R, q, k⟩ := h
  exact k [] c [] H H0 q (Same.refl _) R .nil
theorem dkCons {nm : Option Str} {kpos : Pos} {kws : List Keyword} {we : WE} {wr : WA} (ha : PE X e (tG X.K F γ we)) (hr : PK X kws (tA X.K F γ wr)) : PK X (⟨nm, e, kpos⟩ :: kws) (tA X.K F γ (wCons we wr)) := PK.imp (pk_cons ha hr) fun σ H Q h => by
  obtain ⟨H0, env, c, P, R, q, k⟩ := h
  exact ⟨H0, env, c, _, R, q, fun d c1 v H1 H01 q1 s1 R1 h1 => ⟨H01, env, c1, _, R1, q1, fun ds c2 vs H2 H02 q2 s2 R2 h2 => k _ _ _ _ _ q2 (s1.trans s2) R2 (.cons (h1.mono s2) h2)⟩⟩
/-- the keywords' values alone, in the parameters' order by perm -/
def wCallK (n : Nat) (T : TP) (perm : List D → List D) (wk : WA) : WE := fun env c P => wk env c fun ds c1 => (perm ds).length = n ∧ T (perm ds) fun d => P d c1
theorem pe_callK0 {CX : CXT} {ks : List Str} {sp : Sp} {E : XK} {kws : List Keyword} {tk : TA} {g : List Value → List Value → List Value} {gV : List V → List V → List V} (G : FnG X.prog X.w X.K X.mg X.base CX k f fd ps sp) (hr : Room k X.A) (hgd : X.A.guards = some []) (hg : Gl X x) (hm : X.mg x = some (.ref f)) (hk : PySem.W.keepIn X.K (.ref f) = true) (hb : KBinds X.K fd ps ks g gV) (hx : Passes CX X E)
    (hkw : PK X kws tk) (hall : (backToKw pos (keywordEach kws X.env)).all (·.1.isSome) = true := by rfl) (hks : (backToKw pos (keywordEach kws X.env)).filterMap (·.1) = ks := by rfl)
    (hdb : (x == ("__debug__" : Str)) = false := by decide)
    (hpl : ((backTo pos (starEach [] X.env)).any (·.1) || (backToKw pos (keywordEach kws X.env)).any (·.1.isNone)) = false := by rfl) :
    PE X (.Call (.Name x p) [] kws pos) (tCallK sp gV E tNil tk) := by
  refine ⟨fun pins s σ H Q I h => ?_⟩
  refine wpAny_Call_Name_kw (ld_glob I hg hm ?_ hdb)
  refine PySem.W.callWith_KW0 (h₀ := X.base) I.ok.mod.kin hk hall ?_ hpl
  refine thn (hkw.run pos pins s σ H _ I h) fun ws s2 ⟨zs, H2, I2, rz, q2⟩ => ⟨I2.kIn, ?_⟩
  rw [hks]
  exact runGk G hr hgd hb hx I2 .nil rz q2
theorem dCallK {T : TP} {ks : List Str} {kws : List Keyword} {wk : WA} {g : List Value → List Value → List Value} {gV : List V → List V → List V} (perm : List D → List D) (G : FnG X.prog X.w X.K X.mg X.base CX0 k f fd ps (spP X.K γ.tb n T)) (hr : Room k X.A) (hgd : X.A.guards = some []) (hm : X.mg x = some (.ref f)) (hk : PySem.W.keepIn X.K (.ref f) = true) (hb : KBinds X.K fd ps ks g gV)
    (hp : ∀ H vs ds, HasL X.K H vs ds → HasL X.K H (gV [] vs) (perm ds)) (hkw : PK X kws (tA X.K F γ wk)) (hg : Gl X x := by rfl) (hall : (backToKw pos (keywordEach kws X.env)).all (·.1.isSome) = true := by rfl) (hks : (backToKw pos (keywordEach kws X.env)).filterMap (·.1) = ks := by rfl)
    (hdb : (x == ("__debug__" : Str)) = false := by decide)
    (hpl : ((backTo pos (starEach [] X.env)).any (·.1) || (backToKw pos (keywordEach kws X.env)).any (·.1.isNone)) = false := by rfl) :
    PE X (.Call (.Name x p) [] kws pos) (tG X.K F γ (wCallK n T perm wk)) := PE.imp (pe_callK0 G hr hgd hg hm hk hb pass0 hkw hall hks hdb hpl) fun σ H Q h => by
  obtain ⟨H0, env, c, P, R, q, k⟩ := h
  refine ⟨H0, env, c, _, R, q, fun ds c1 vs H1 H01 ⟨hn, q1⟩ s1 R1 h1 => ?_⟩
  refine ⟨_, _, H01, perm ds, _, R1.core.forP, hp _ _ _ h1, hn, q1, fun d v H' H0' q2 s2 C2 h2 => ?_⟩
  exact k _ _ _ _ _ q2 (s1.trans s2) (R1.after C2 s2) h2
end
end L2.DL

set_option Elab.async false
set_option linter.all false
set_option autoImplicit false
set_option maxRecDepth 100000
namespace L2.DL
open PySem PySem.Spec PyProof.Rows
section
variable {X : Cx} {F : Hp} {γ : Gm}
/-! ### arithmetic, texts, lists -/
def addD : D2
  | .int a, .int b, P => P (.int (a + b))
  | .str a, .str b, P => a.length + b.length ≤ sizeLine ∧ P (.str (a ++ b))
  | .lst a, .lst b, P => a.length + b.length ≤ sizeLine ∧ P (.lst (a ++ b))
  | .tup a, .tup b, P => a.length + b.length ≤ sizeLine ∧ P (.tup (a ++ b))
  | _, _, _ => False
theorem HasL.nil_inv {K : PySem.W.Frag} {H : Hp} {ds : List D} (h : HasL K H [] ds) : ds = [] := by cases h; rfl
theorem o_add : Op2 X F γ (binaryOp .Add) addD := by
  intro H0 H σ env c x y d e k Q R hx hy hf hk
  cases hx with
  | int i =>
    cases hy with
    | int j => exact ⟨_, op_add, i, j, rfl, rfl, hk _ _ _ _ hf (Same.refl _) R (.int _)⟩
    | _ => exact (show False from hf).elim
  | str i =>
    cases hy with
    | str j => exact ⟨_, op_add_str, i, j, rfl, rfl, hf.1, hk _ _ _ _ hf.2 (Same.refl _) R (.str _)⟩
    | _ => exact (show False from hf).elim
  | lst h1 h2 =>
    cases hy with
    | lst h3 h4 =>
      have z : _ ∧ _ := hf
      refine ⟨_, op_cat, _, _, _, _, rfl, rfl, R.core.sub _ _ h1, R.core.sub _ _ h3, by rw [h2.length, h4.length]; exact z.1, fun p hp => ?_⟩
      exact hk _ _ _ _ z.2 (Same.new (R.core.sub.free hp)) (R.alloc hp) (.lst upd_same ((h2.append h4).mono (Same.new (R.core.sub.free hp))))
    | _ => exact (show False from hf).elim
  | tup h1 h2 =>
    cases hy with
    | tup h3 h4 =>
      have z : _ ∧ _ := hf
      refine ⟨_, op_catA, _, _, _, _, rfl, rfl, SqT.of (R.core.sub _ _ h1), SqT.of (R.core.sub _ _ h3), by rw [h2.length, h4.length]; exact z.1, fun e => ?_, fun e1 e2 => ?_, fun e1 e2 p hp => ?_⟩
      · subst e
        have := h2.nil_inv
        subst this
        exact hk _ _ _ _ z.2 (Same.refl _) R (.tup h3 h4)
      · subst e2
        have := h4.nil_inv
        subst this
        rw [List.append_nil] at z
        exact hk _ _ _ _ z.2 (Same.refl _) R (.tup h1 h2)
      · exact hk _ _ _ _ z.2 (Same.new (R.core.sub.free hp)) (R.alloc hp) (.tup upd_same ((h2.append h4).mono (Same.new (R.core.sub.free hp))))
    | _ => exact (show False from hf).elim
  | _ => exact (show False from hf).elim
def subD : D2
  | .int a, .int b, P => P (.int (a - b))
  | _, _, _ => False
theorem o_sub : Op2 X F γ (binaryOp .Sub) subD := by
  intro H0 H σ env c x y d e k Q R hx hy hf hk
  cases hx with
  | int i =>
    cases hy with
    | int j => exact ⟨_, op_sub, i, j, rfl, rfl, hk _ _ _ _ hf (Same.refl _) R (.int _)⟩
    | _ => exact (show False from hf).elim
  | _ => exact (show False from hf).elim
/-- a text again and again -/
def smul (x : Str) (n : Int) : Str := ⟨(List.replicate n.toNat x.cps.toList).flatten.toArray⟩
theorem foldl_cat (l : List (Array Nat)) (a : Array Nat) : (l.foldl (· ++ ·) a).toList = a.toList ++ (l.map Array.toList).flatten := by
  induction l generalizing a with
  | nil => simp
  | cons x l ih => rw [List.foldl_cons, ih, List.map_cons, List.flatten_cons, Array.toList_append, List.append_assoc]
theorem mul_smul (x : Str) (n : Int) : Txt.mul x n = smul x n := by
  unfold Txt.mul smul
  by_cases h1 : n < 1
  · rw [if_pos h1]
    have : n.toNat = 0 := by omega
    rw [this]
    rfl
  · rw [if_neg h1]
    by_cases h2 : (n == 1 || x.length == 0) = true
    · rw [if_pos h2]
      rcases Bool.or_eq_true_iff.mp h2 with h3 | h3
      · have : n = 1 := by simpa using h3
        subst this
        simp
      · have e : x.cps = #[] := Array.eq_empty_of_size_eq_zero (by simpa [Str.length] using h3)
        have ex : x = ⟨#[]⟩ := by cases x; simp only at e; rw [e]
        rw [ex]
        simp
    · rw [if_neg h2]
      congr 1
      apply Array.ext'
      rw [foldl_cat]
      simp
theorem mulOk_of {x : Str} {n : Int} (h1 : -(2 ^ 62) ≤ n) (h2 : n < 2 ^ 62) (h : x.length * n.toNat ≤ sizeLine) : MulOk x n := by
  have hs : sizeLine = 16777216 := sizeLine_eq
  refine ⟨?_, fun h3 h4 => ?_, fun h3 h4 => ?_⟩
  · rw [Bool.or_eq_false_iff]
    exact ⟨decide_eq_false (by omega), decide_eq_false (by omega)⟩
  · intro h5
    have h6 : 1 ≤ n := by omega
    have h7 : (2 ^ 63 - 1 : Int) / n * n ≤ 2 ^ 63 - 1 := Int.ediv_mul_le _ (by omega)
    have h8 : (x.length : Int) * n ≤ 16777216 := by
      have e : ((x.length * n.toNat : Nat) : Int) ≤ 16777216 := by omega
      rw [Int.natCast_mul, Int.toNat_of_nonneg (by omega)] at e
      exact e
    have h9 : 0 ≤ (2 ^ 63 - 1 : Int) / n := Int.ediv_nonneg (by omega) (by omega)
    have h10 : ((2 ^ 63 - 1 : Int) / n + 1) * n ≤ x.length * n := Int.mul_le_mul_of_nonneg_right (by omega) (by omega)
    have h11 : (2 ^ 63 - 1 : Int) < ((2 ^ 63 - 1 : Int) / n + 1) * n := Int.lt_ediv_add_one_mul_self _ (by omega)
    omega
  · unfold Builtin.Str.tooLong
    exact decide_eq_false (by omega)
def rMulS : R2 := fun x y H Q => ∃ z n, x = .str z ∧ y = .int n ∧ -(2 ^ 62) ≤ n ∧ n < 2 ^ 62 ∧ z.length * n.toNat ≤ sizeLine ∧ Q (.str (smul z n)) H
theorem op_mulS : OpR X (binaryOp .Mult) rMulS := by
  intro pins s σ H x y v u Q I rx ry h
  obtain ⟨z, n, rfl, rfl, h1, h2, h3, q⟩ := h
  obtain ⟨t, rfl⟩ := rx
  obtain ⟨t', rfl⟩ := ry
  refine SB.mul (mulOk_of h1 h2 h3) fun t' k => ?_
  rw [mul_smul]
  exact ⟨.str _, H, I.tok _, ⟨_, rfl⟩, q⟩
def mulD : D2
  | .int a, .int b, P => CMul a b ∧ P (.int (a * b))
  | .str a, .int n, P => -(2 ^ 62) ≤ n ∧ n < 2 ^ 62 ∧ a.length * n.toNat ≤ sizeLine ∧ P (.str (smul a n))
  | .lst a, .int n, P => -(2 ^ 62) ≤ n ∧ n < 2 ^ 62 ∧ a.length * n.toNat ≤ sizeLine ∧ P (.lst (List.replicate n.toNat a).flatten)
  | _, _, _ => False
theorem HasL.rep {K : PySem.W.Frag} {H : Hp} {vs : List V} {ds : List D} (h : HasL K H vs ds) : ∀ n : Nat, HasL K H (List.replicate n vs).flatten (List.replicate n ds).flatten
  | 0 => .nil
  | n + 1 => by
    rw [List.replicate_succ, List.replicate_succ, List.flatten_cons, List.flatten_cons]
    exact h.append (h.rep n)
theorem o_mul : Op2 X F γ (binaryOp .Mult) mulD := by
  intro H0 H σ env c x y d e k Q R hx hy hf hk
  cases hx with
  | int i =>
    cases hy with
    | int j => exact ⟨_, op_mul, i, j, rfl, rfl, hf.1, hk _ _ _ _ hf.2 (Same.refl _) R (.int _)⟩
    | _ => exact (show False from hf).elim
  | str i =>
    cases hy with
    | int j =>
      obtain ⟨h1, h2, h3, q⟩ := (show _ ∧ _ ∧ _ ∧ _ from hf)
      exact ⟨_, op_mulS, i, j, rfl, rfl, h1, h2, h3, hk _ _ _ _ q (Same.refl _) R (.str _)⟩
    | _ => exact (show False from hf).elim
  | lst h1 h2 =>
    cases hy with
    | int j =>
      obtain ⟨h3, h4, h5, q⟩ := (show _ ∧ _ ∧ _ ∧ _ from hf)
      refine ⟨_, op_rep, _, j, _, rfl, rfl, R.core.sub _ _ h1, by omega, by omega, by rw [h2.length]; exact h5, fun p hp => ?_⟩
      exact hk _ _ _ _ q (Same.new (R.core.sub.free hp)) (R.alloc hp) (.lst upd_same ((h2.rep _).mono (Same.new (R.core.sub.free hp))))
    | _ => exact (show False from hf).elim
  | _ => exact (show False from hf).elim
/-- divisors: positive, of at most 9,000 bits -/
def FDiv (b : Int) : Prop := 0 < b ∧ b < 2 ^ 2000
theorem fdiv_of {b : Int} (h0 : 0 < b) (h1 : b ≤ 1000000000000000000000000000000000000000000) : FDiv b := by
  have e : (1000000000000000000000000000000000000000000 : Int) < 2 ^ 2000 := by decide +kernel
  exact ⟨h0, Int.lt_of_le_of_lt h1 e⟩
def fdivD : D2
  | .int a, .int b, P => FDiv b ∧ P (.int (a / b))
  | _, _, _ => False
theorem o_fdiv : Op2 X F γ (binaryOp .FloorDiv) fdivD := by
  intro H0 H σ env c x y d e k Q R hx hy hf hk
  cases hx with
  | int i =>
    cases hy with
    | int j =>
      obtain ⟨⟨h1, h2⟩, q⟩ := (show (_ ∧ _) ∧ _ from hf)
      exact ⟨_, op_fdivW, i, j, rfl, rfl, wide_div (b := 2000) h1 (by omega) (by decide) (by decide), hk _ _ _ _ q (Same.refl _) R (.int _)⟩
    | _ => exact (show False from hf).elim
  | _ => exact (show False from hf).elim
def modD : D2
  | .int a, .int b, P => 0 < b ∧ P (.int (a % b))
  | _, _, _ => False
theorem o_mod : Op2 X F γ (binaryOp .Mod) modD := by
  intro H0 H σ env c x y d e k Q R hx hy hf hk
  cases hx with
  | int i =>
    cases hy with
    | int j => exact ⟨_, op_mod, i, j, rfl, rfl, hf.1, hk _ _ _ _ hf.2 (Same.refl _) R (.int _)⟩
    | _ => exact (show False from hf).elim
  | _ => exact (show False from hf).elim
def powD : D2
  | .int a, .int b, P => CPow a b ∧ P (.int (a ^ b.toNat))
  | _, _, _ => False
theorem o_pow : Op2 X F γ (binaryOp .Pow) powD := by
  intro H0 H σ env c x y d e k Q R hx hy hf hk
  cases hx with
  | int i =>
    cases hy with
    | int j => exact ⟨_, op_pow, i, j, rfl, rfl, hf.1, hk _ _ _ _ hf.2 (Same.refl _) R (.int _)⟩
    | _ => exact (show False from hf).elim
  | _ => exact (show False from hf).elim
/-! ### one value -/
abbrev D1 := D → (D → Prop) → Prop
def wUn (f : D1) (a : WE) : WE := fun env c P => a env c fun x c1 => f x fun z => P z c1
def negD : D1
  | .int a, P => P (.int (-a))
  | _, _ => False
theorem dNeg {a : Expr} {wa : WE} {pos : Pos} (ha : PE X a (tG X.K F γ wa)) : PE X (.UnaryOp .USub a pos) (tG X.K F γ (wUn negD wa)) := PE.imp (pe_un un_neg ha) fun σ H Q h => by
  obtain ⟨H0, env, c, P, R, q, k⟩ := h
  refine ⟨H0, env, c, _, R, q, fun d c1 v H1 H01 q1 s1 R1 h1 => ?_⟩
  cases h1 with
  | int i => exact ⟨i, rfl, k _ _ _ _ _ q1 s1 R1 (.int _)⟩
  | _ => exact (show False from q1).elim

/-! ### comparisons -/
mutual
def D.p : D → PyData
  | .non => .none | .bl b => .bool b | .int i => .int i | .str x => .str x | .lst ds => .list (D.ps ds) | .tup ds => .tuple (D.ps ds) | .dic _ _ => .dict [] | .fn _ => .none | .exc _ _ _ => .none
def D.ps : List D → List PyData
  | [] => []
  | d :: ds => D.p d :: D.ps ds
end
mutual
/-- no dict in it -/
def D.flat : D → Bool
  | .lst ds => D.flats ds | .tup ds => D.flats ds | .dic _ _ => false | .fn _ => false | .exc _ _ _ => false | _ => true
def D.flats : List D → Bool
  | [] => true
  | d :: ds => D.flat d && D.flats ds
end
mutual
theorem Has.dp {K : PySem.W.Frag} {H0 H : Hp} (s : Same H0 H) : ∀ (d : D) (v : V), Has K H0 v d → d.flat = true → Dp K H v d.p
  | .non, _, h, _ => by cases h; exact .non
  | .bl b, _, h, _ => by cases h; exact .bl b
  | .int b, _, h, _ => by cases h; exact .int b
  | .str b, _, h, _ => by cases h; exact .str b
  | .lst ds, _, h, f => by cases h with | lst h1 h2 => exact .lst (SqL.of (s _ _ h1)) (HasL.dps s ds _ h2 f)
  | .tup ds, _, h, f => by cases h with | tup h1 h2 => exact .tup (SqT.of (s _ _ h1)) (HasL.dps s ds _ h2 f)
  | .dic _ _, _, h, f => (Bool.noConfusion f)
  | .fn _, _, h, f => (Bool.noConfusion f)
  | .exc _ _ _, _, h, f => (Bool.noConfusion f)
theorem HasL.dps {K : PySem.W.Frag} {H0 H : Hp} (s : Same H0 H) : ∀ (ds : List D) (vs : List V), HasL K H0 vs ds → D.flats ds = true → DpAll K H vs (D.ps ds)
  | [], _, h, _ => by cases h; exact .nil
  | d :: ds, _, h, f => by
    have f' : (D.flat d && D.flats ds) = true := f
    rw [Bool.and_eq_true] at f'
    cases h with | cons h1 h2 => exact .cons (Has.dp s d _ h1 f'.1) (HasL.dps s ds _ h2 f'.2)
end
/-- == as Python has it -/
def D.eqb (d e : D) : Bool := PyData.eqv d.p e.p
def D.deepOk (d : D) : Bool := d.flat && SeqAt.shaped d.p
def eqOk : D → D → Bool
  | .non, .non => true | .non, .bl _ => true | .non, .int _ => true | .non, .str _ => true
  | .bl _, .non => true | .int _, .non => true | .str _, .non => true
  | .bl _, .bl _ => true | .bl _, .str _ => true | .str _, .bl _ => true
  | .int _, .int _ => true | .int _, .str _ => true | .str _, .int _ => true | .str _, .str _ => true
  | d, e => d.deepOk && e.deepOk
def eqD : D2 := fun d e P => eqOk d e = true ∧ P (.bl (d.eqb e))
def neD : D2 := fun d e P => eqOk d e = true ∧ P (.bl (!d.eqb e))
theorem eqv_scal (v u : V) (d e : D) (K : PySem.W.Frag) (H : Hp) (h1 : Has K H v d) (h2 : Has K H u e) (h : scal v u = true) : decide (v = u) = d.eqb e := by
  cases h1 <;> cases h2 <;> first
    | exact (Bool.noConfusion h)
    | rfl
    | (simp [D.eqb, D.p, PyData.eqv]; done)
    | (simp only [D.eqb, D.p, PyData.eqv]; rw [Bool.eq_iff_iff]; simp)
theorem eq_cases {K : PySem.W.Frag} {H : Hp} {v u : V} {d e : D} (h1 : Has K H v d) (h2 : Has K H u e) (h : eqOk d e = true) : scal v u = true ∨ (d.deepOk = true ∧ e.deepOk = true) := by
  cases h1 <;> cases h2 <;> first
    | exact .inl rfl
    | exact .inr (Bool.and_eq_true_iff.mp h)
theorem o_eq (hu : X.A.units + 64 < cLine) : Op2 X F γ (compareOp .Eq) eqD := by
  intro H0 H σ env c x y d e k Q R hx hy hf hk
  obtain ⟨h1, h2⟩ := (show _ ∧ _ from hf)
  rcases eq_cases hx hy h1 with h | ⟨h3, h4⟩
  · refine ⟨_, op_eq, h, ?_⟩
    rw [eqv_scal _ _ _ _ _ _ hx hy h]
    exact hk _ _ _ _ h2 (Same.refl _) R (.bl _)
  · unfold D.deepOk at h3 h4
    rw [Bool.and_eq_true] at h3 h4
    exact ⟨_, op_eqD hu, d.p, e.p, hx.dp R.core.sub _ _ h3.1, hy.dp R.core.sub _ _ h4.1, h3.2, h4.2, hk _ _ _ _ h2 (Same.refl _) R (.bl _)⟩
theorem o_ne (hu : X.A.units + 64 < cLine) : Op2 X F γ (compareOp .NotEq) neD := by
  intro H0 H σ env c x y d e k Q R hx hy hf hk
  obtain ⟨h1, h2⟩ := (show _ ∧ _ from hf)
  rcases eq_cases hx hy h1 with h | ⟨h3, h4⟩
  · refine ⟨_, op_ne, h, ?_⟩
    rw [eqv_scal _ _ _ _ _ _ hx hy h]
    exact hk _ _ _ _ h2 (Same.refl _) R (.bl _)
  · unfold D.deepOk at h3 h4
    rw [Bool.and_eq_true] at h3 h4
    exact ⟨_, op_neD hu, d.p, e.p, hx.dp R.core.sub _ _ h3.1, hy.dp R.core.sub _ _ h4.1, h3.2, h4.2, hk _ _ _ _ h2 (Same.refl _) R (.bl _)⟩
/-- ints, texts -/
def cmpD (p : Int → Int → Bool) (q : List Nat → List Nat → Bool) : D2
  | .int a, .int b, P => P (.bl (p a b))
  | .str a, .str b, P => P (.bl (q a.cps.toList b.cps.toList))
  | _, _, _ => False
theorem o_cmp {op : CmpOp} {p : Int → Int → Bool} {q : List Nat → List Nat → Bool} (h1 : OpR X (compareOp op) (rI0 fun i j => .bl (p i j))) (h2 : OpR X (compareOp op) (fun x y H Q => ∃ i j, x = .str i ∧ y = .str j ∧ Q (.bl (q i.cps.toList j.cps.toList)) H)) : Op2 X F γ (compareOp op) (cmpD p q) := by
  intro H0 H σ env c x y d e k Q R hx hy hf hk
  cases hx with
  | int i =>
    cases hy with
    | int j => exact ⟨_, h1, i, j, rfl, rfl, hk _ _ _ _ hf (Same.refl _) R (.bl _)⟩
    | _ => exact (show False from hf).elim
  | str i =>
    cases hy with
    | str j => exact ⟨_, h2, i, j, rfl, rfl, hk _ _ _ _ hf (Same.refl _) R (.bl _)⟩
    | _ => exact (show False from hf).elim
  | _ => exact (show False from hf).elim
def ltD : D2 := cmpD (fun i j => decide (i < j)) (fun a b => decide (a < b))
def leD : D2 := cmpD (fun i j => decide (i ≤ j)) (fun a b => !decide (b < a))
def gtD : D2 := cmpD (fun i j => decide (j < i)) (fun a b => decide (b < a))
def geD : D2 := cmpD (fun i j => decide (j ≤ i)) (fun a b => !decide (a < b))
theorem o_lt : Op2 X F γ (compareOp .Lt) ltD := o_cmp op_lt op_lt_str
theorem o_le : Op2 X F γ (compareOp .LtE) leD := o_cmp op_le op_le_str
theorem o_gt : Op2 X F γ (compareOp .Gt) gtD := o_cmp op_gt op_gt_str
theorem o_ge : Op2 X F γ (compareOp .GtE) geD := o_cmp op_ge op_ge_str
/-- is None -/
def D.isN : D → Bool | .non => true | _ => false
def isD : D2
  | d, .non, P => P (.bl d.isN)
  | _, _, _ => False
def isntD : D2
  | d, .non, P => P (.bl (!d.isN))
  | _, _, _ => False
theorem isN_of {K : PySem.W.Frag} {H : Hp} {v : V} {d : D} (h : Has K H v d) : decide (v = .non) = d.isN := by
  cases h <;> simp [D.isN]
theorem o_is : Op2 X F γ (compareOp .Is) isD := by
  intro H0 H σ env c x y d e k Q R hx hy hf hk
  cases hy with
  | non => exact ⟨_, op_isN, rfl, by rw [isN_of hx]; exact hk _ _ _ _ (by cases d <;> exact hf) (Same.refl _) R (.bl _)⟩
  | _ => cases d <;> exact (show False from hf).elim
theorem o_isnt : Op2 X F γ (compareOp .IsNot) isntD := by
  intro H0 H σ env c x y d e k Q R hx hy hf hk
  cases hy with
  | non => exact ⟨_, op_notN, rfl, by rw [isN_of hx]; exact hk _ _ _ _ (by cases d <;> exact hf) (Same.refl _) R (.bl _)⟩
  | _ => cases d <;> exact (show False from hf).elim
/-! ### in -/
def D.scalar : D → Bool | .non => true | .bl _ => true | .int _ => true | .str _ => true | _ => false
def strIn (x y : Str) : Bool := match x.cps.toList with | [c] => decide (c ∈ y.cps.toList) | _ => !(Builtin.Str.occurrences y x 0 y.length 1).isEmpty
def inB (d : D) (es : List D) : Bool := es.any fun e => e.eqb d
def inD : D2
  | .str x, .str y, P => P (.bl (strIn x y))
  | d, .lst es, P => d.scalar = true ∧ es.all D.scalar = true ∧ P (.bl (inB d es))
  | d, .tup es, P => d.scalar = true ∧ es.all D.scalar = true ∧ P (.bl (inB d es))
  | _, _, _ => False
def notinD : D2
  | .str x, .str y, P => P (.bl (!strIn x y))
  | d, .lst es, P => d.scalar = true ∧ es.all D.scalar = true ∧ P (.bl (!inB d es))
  | d, .tup es, P => d.scalar = true ∧ es.all D.scalar = true ∧ P (.bl (!inB d es))
  | _, _, _ => False
theorem scalar_flat {K : PySem.W.Frag} {H : Hp} {v : V} {d : D} (h : Has K H v d) (f : d.scalar = true) : flatV v = true := by
  cases h <;> first | rfl | exact Bool.noConfusion f
theorem scalars_flat {K : PySem.W.Frag} {H : Hp} : ∀ {vs : List V} {ds : List D}, HasL K H vs ds → ds.all D.scalar = true → vs.all flatV = true
  | _, _, .nil, _ => rfl
  | _, _, .cons h t, f => by
    rw [List.all_cons, Bool.and_eq_true] at f ⊢
    exact ⟨scalar_flat h f.1, scalars_flat t f.2⟩
theorem eqV_of {K : PySem.W.Frag} {H : Hp} {v u : V} {d e : D} (h1 : Has K H v d) (h2 : Has K H u e) (f1 : d.scalar = true) (f2 : e.scalar = true) : eqV v u = d.eqb e := by
  cases h1 <;> first
    | exact Bool.noConfusion f1
    | (cases h2 <;> first
        | exact Bool.noConfusion f2
        | simp only [eqV, D.eqb, D.p, PyData.eqv])
theorem inV_of {K : PySem.W.Frag} {H : Hp} {v : V} {d : D} (h : Has K H v d) (f : d.scalar = true) : ∀ {vs : List V} {ds : List D}, HasL K H vs ds → ds.all D.scalar = true → inV v vs = inB d ds
  | _, _, .nil, _ => rfl
  | _, _, .cons h1 t, f1 => by
    rw [List.all_cons, Bool.and_eq_true] at f1
    unfold inV inB
    rw [List.any_cons, List.any_cons, eqV_of h1 h f1.1 f]
    congr 1
    exact inV_of h f t f1.2
theorem str_one {x : Str} {c : Nat} (h : x.cps.toList = [c]) : x = ⟨#[c]⟩ := by
  cases x with
  | mk a =>
    have : a = #[c] := by apply Array.ext'; simpa using h
    rw [this]
theorem o_in : Op2 X F γ (compareOp .In) inD := by
  intro H0 H σ env c x y d e k Q R hx hy hf hk
  cases hy with
  | str j =>
    cases hx with
    | str i =>
      have q : k (.bl (strIn i j)) := hf
      unfold strIn at q
      cases e : i.cps.toList with
      | nil => rw [e] at q; exact ⟨_, op_in_str, i, j, rfl, rfl, hk _ _ _ _ q (Same.refl _) R (.bl _)⟩
      | cons c r =>
        cases r with
        | nil => rw [e] at q; exact ⟨_, op_in_sign, c, j, by rw [str_one e], rfl, hk _ _ _ _ q (Same.refl _) R (.bl _)⟩
        | cons c2 r => rw [e] at q; exact ⟨_, op_in_str, i, j, rfl, rfl, hk _ _ _ _ q (Same.refl _) R (.bl _)⟩
    | _ => exact (show False from hf).elim
  | @lst _ _ es h1 h2 =>
    have hf' : d.scalar = true ∧ es.all D.scalar = true ∧ k (.bl (inB d es)) := by cases d <;> exact hf
    obtain ⟨f1, f2, q⟩ := hf'
    refine ⟨_, op_in_seq, _, _, rfl, .inl (SqL.of (R.core.sub _ _ h1)), scalar_flat hx f1, scalars_flat h2 f2, ?_⟩
    rw [if_neg Bool.false_ne_true, inV_of hx f1 h2 f2]
    exact hk _ _ _ _ q (Same.refl _) R (.bl _)
  | @tup _ _ es h1 h2 =>
    have hf' : d.scalar = true ∧ es.all D.scalar = true ∧ k (.bl (inB d es)) := by cases d <;> exact hf
    obtain ⟨f1, f2, q⟩ := hf'
    refine ⟨_, op_in_seq, _, _, rfl, .inr (SqT.of (R.core.sub _ _ h1)), scalar_flat hx f1, scalars_flat h2 f2, ?_⟩
    rw [if_neg Bool.false_ne_true, inV_of hx f1 h2 f2]
    exact hk _ _ _ _ q (Same.refl _) R (.bl _)
  | _ => cases d <;> exact (show False from hf).elim
theorem o_notin : Op2 X F γ (compareOp .NotIn) notinD := by
  intro H0 H σ env c x y d e k Q R hx hy hf hk
  cases hy with
  | str j =>
    cases hx with
    | str i =>
      have q : k (.bl (!strIn i j)) := hf
      unfold strIn at q
      cases e : i.cps.toList with
      | nil => rw [e] at q; exact ⟨_, op_notin_str, i, j, rfl, rfl, hk _ _ _ _ q (Same.refl _) R (.bl _)⟩
      | cons c r =>
        cases r with
        | nil => rw [e] at q; exact ⟨_, op_notIn_sign, c, j, by rw [str_one e], rfl, hk _ _ _ _ q (Same.refl _) R (.bl _)⟩
        | cons c2 r => rw [e] at q; exact ⟨_, op_notin_str, i, j, rfl, rfl, hk _ _ _ _ q (Same.refl _) R (.bl _)⟩
    | _ => exact (show False from hf).elim
  | @lst _ _ es h1 h2 =>
    have hf' : d.scalar = true ∧ es.all D.scalar = true ∧ k (.bl (!inB d es)) := by cases d <;> exact hf
    obtain ⟨f1, f2, q⟩ := hf'
    refine ⟨_, op_notIn_seq, _, _, rfl, .inl (SqL.of (R.core.sub _ _ h1)), scalar_flat hx f1, scalars_flat h2 f2, ?_⟩
    rw [if_pos rfl, inV_of hx f1 h2 f2]
    exact hk _ _ _ _ q (Same.refl _) R (.bl _)
  | @tup _ _ es h1 h2 =>
    have hf' : d.scalar = true ∧ es.all D.scalar = true ∧ k (.bl (!inB d es)) := by cases d <;> exact hf
    obtain ⟨f1, f2, q⟩ := hf'
    refine ⟨_, op_notIn_seq, _, _, rfl, .inr (SqT.of (R.core.sub _ _ h1)), scalar_flat hx f1, scalars_flat h2 f2, ?_⟩
    rw [if_pos rfl, inV_of hx f1 h2 f2]
    exact hk _ _ _ _ q (Same.refl _) R (.bl _)
  | _ => cases d <;> exact (show False from hf).elim
end
end L2.DL

set_option Elab.async false
set_option linter.all false
set_option autoImplicit false
set_option maxRecDepth 100000
namespace L2.DL
open PySem PySem.Spec PyProof.Rows
theorem tG.mono {K : PySem.W.Frag} {F : Hp} {γ : Gm} {w : WE} {σ : St} {H : Hp} {Q Q' : VK} (h : tG K F γ w σ H Q) (k : ∀ v H, Q v H → Q' v H) : tG K F γ w σ H Q' := by
  obtain ⟨H0, env, c, P, R, q, kk⟩ := h
  exact ⟨H0, env, c, P, R, q, fun d c' v H' H0' q1 s1 R1 h1 => k _ _ (kk d c' v H' H0' q1 s1 R1 h1)⟩
section
variable {X : Cx} {F : Hp} {γ : Gm} {pos : Pos}
/-! ### subscripts -/
def ixD : D2
  | .lst ds, .int i, P => ∃ d, atI ds i = some d ∧ P d
  | .tup ds, .int i, P => ∃ d, atI ds i = some d ∧ P d
  | .str z, .int i, P => z.length ≤ sizeLine ∧ ∃ c, atI z.cps.toList i = some c ∧ P (.str ⟨#[c]⟩)
  | _, _, _ => False
theorem HasL.atI {K : PySem.W.Frag} {H : Hp} {vs : List V} {ds : List D} {i : Int} {d : D} (h : HasL K H vs ds) (e : L2.atI ds i = some d) : ∃ v, L2.atI vs i = some v ∧ Has K H v d := by
  unfold L2.atI at e ⊢
  rw [h.length]
  cases q : ixN ds.length i with
  | none => rw [q] at e; cases e
  | some j =>
    rw [q] at e
    exact h.getD' e
variable {a b : Expr} {wa wb : WE}
theorem dIx (ha : PE X a (tG X.K F γ wa)) (hb : PE X b (tG X.K F γ wb)) (hs : PlainIx b := by exact fun _ _ => rfl) : PE X (.Subscript a b pos) (tG X.K F γ (wBin ixD wa wb)) := PE.imp (pe_ix ix_seq ha hb hs) fun σ H Q h => by
  refine tG.mono (two h) fun x H1 g1 => tG.mono g1 fun y H2 g2 => ?_
  obtain ⟨H0, env, c, d, e, k, R, hx, hy, hf, hk⟩ := g2
  cases hx with
  | lst h1 h2 =>
    cases hy with
    | int i =>
      obtain ⟨d, e, q⟩ := (show ∃ d, _ ∧ _ from hf)
      obtain ⟨v, e2, hv⟩ := h2.atI e
      exact .inl ⟨_, _, i, v, rfl, rfl, SqL.of (R.core.sub _ _ h1), e2, hk _ _ _ _ q (Same.refl _) R hv⟩
    | _ => exact (show False from hf).elim
  | tup h1 h2 =>
    cases hy with
    | int i =>
      obtain ⟨d, e, q⟩ := (show ∃ d, _ ∧ _ from hf)
      obtain ⟨v, e2, hv⟩ := h2.atI e
      exact .inr (.inl ⟨_, _, i, v, rfl, rfl, SqT.of (R.core.sub _ _ h1), e2, hk _ _ _ _ q (Same.refl _) R hv⟩)
    | _ => exact (show False from hf).elim
  | str z =>
    cases hy with
    | int i =>
      obtain ⟨hz, c, e, q⟩ := (show _ ∧ ∃ c, _ ∧ _ from hf)
      exact .inr (.inr ⟨z, i, c, rfl, rfl, hz, e, hk _ _ _ _ q (Same.refl _) R (.str _)⟩)
    | _ => exact (show False from hf).elim
  | _ => exact (show False from hf).elim
/-! ### slices -/
def cutD {α : Type} (xs : List α) (lo hi : Option Int) : List α := (xs.drop (HT.sIx xs.length 0 lo)).take (HT.sIx xs.length xs.length hi - HT.sIx xs.length 0 lo)
abbrev WO := List Sl → Nat → (Option Int → Nat → Prop) → Prop
def wNoP : WO := fun _ c P => P none c
def wPart (w : WE) : WO := fun env c P => w env c fun d c1 => ∃ i, d = .int i ∧ P (some i) c1
def slD (d : D) (lo hi : Option Int) (P : D → Prop) : Prop := match d with
  | .str z => z.length ≤ sizeLine ∧ P (.str (cutS z lo hi))
  | .lst ds => P (.lst (cutD ds lo hi))
  | .tup ds => P (.tup (cutD ds lo hi))
  | _ => False
def wSl (we : WE) (wl wu : WO) : WE := fun env c P => we env c fun d c1 => wl env c1 fun l c2 => wu env c2 fun u c3 => slD d l u fun z => P z c3
def tGO (K : PySem.W.Frag) (F : Hp) (γ : Gm) (w : WO) : TO := fun σ H Q => ∃ H0 env c P, Rep K F γ H0 H σ env c ∧ w env c P ∧ ∀ o c' H' H0', P o c' → Same H0 H0' → Rep K F γ H0' H' σ env c' → Q o H'
theorem dNoP : PO X none (tGO X.K F γ wNoP) := ⟨fun pins s σ H Q I h => po_none.run pins s σ H Q I (by
  obtain ⟨H0, env, c, P, R, q, k⟩ := h
  exact k _ _ _ _ q (Same.refl _) R)⟩
theorem dPart (ha : PE X a (tG X.K F γ wa)) : PO X (some a) (tGO X.K F γ (wPart wa)) := ⟨fun pins s σ H Q I h => (po_some ha).run pins s σ H Q I (by
  obtain ⟨H0, env, c, P, R, q, k⟩ := h
  refine ⟨H0, env, c, _, R, q, fun d c' v H' H0' ⟨i, e, q1⟩ s1 R1 h1 => ?_⟩
  subst e
  cases h1
  exact ⟨i, rfl, k _ _ _ _ q1 s1 R1⟩)⟩
theorem HasL.cut {K : PySem.W.Frag} {H : Hp} {vs : List V} {ds : List D} (h : HasL K H vs ds) (lo hi : Option Int) : HasL K H (cutV vs lo hi) (cutD ds lo hi) := by
  unfold cutV cutD
  rw [h.length]
  exact (h.drop _).take _
theorem cut_all {α : Type} {xs : List α} {lo hi : Option Int} (h : HT.sIx xs.length 0 lo = 0 ∧ HT.sIx xs.length xs.length hi = xs.length) : cutD xs lo hi = xs := by
  unfold cutD
  rw [h.1, h.2]
  simp
theorem dSl {e : Expr} {lo hi : Option Expr} {we : WE} {wl wu : WO} {p2 : Pos} (he : PE X e (tG X.K F γ we)) (hl : PO X lo (tGO X.K F γ wl)) (hu : PO X hi (tGO X.K F γ wu)) : PE X (.Subscript e (.Slice lo hi none p2) pos) (tG X.K F γ (wSl we wl wu)) :=
  PE.imp (pe_slice (sl_list.or (sl_tupA.or sl_str)) he hl hu) fun σ H Q h => by
  obtain ⟨H0, env, c, P, R, q, k⟩ := h
  refine ⟨H0, env, c, _, R, q, fun d c1 v H1 H01 q1 s1 R1 h1 => ?_⟩
  refine ⟨H01, env, c1, _, R1, q1, fun l c2 H2 H02 q2 s2 R2 => ?_⟩
  refine ⟨H02, env, c2, _, R2, q2, fun u c3 H3 H03 q3 s3 R3 => ?_⟩
  have h3 := h1.mono (s2.trans s3)
  have s13 := (s1.trans s2).trans s3
  cases h3 with
  | str z => exact .inr (.inr ⟨z, rfl, q3.1, k _ _ _ _ _ q3.2 s13 R3 (.str _)⟩)
  | lst h4 h5 =>
    refine .inl ⟨_, _, rfl, SqL.of (R3.core.sub _ _ h4), fun p hp => ?_⟩
    exact k _ _ _ _ _ q3 (s13.trans (Same.new (R3.core.sub.free hp))) (R3.alloc hp) (.lst upd_same ((h5.cut l u).mono (Same.new (R3.core.sub.free hp))))
  | tup h4 h5 =>
    refine .inr (.inl ⟨_, _, rfl, SqT.of (R3.core.sub _ _ h4), fun hw => ?_, fun hw p hp => ?_⟩)
    · rw [h5.length] at hw
      have q4 : P (.tup (cutD _ l u)) c3 := q3
      rw [cut_all hw] at q4
      exact k _ _ _ _ _ q4 s13 R3 (.tup h4 h5)
    · exact k _ _ _ _ _ q3 (s13.trans (Same.new (R3.core.sub.free hp))) (R3.alloc hp) (.tup upd_same ((h5.cut l u).mono (Same.new (R3.core.sub.free hp))))
  | _ => exact (show False from q3).elim

/-! ### built-ins of one value -/
theorem CallR.or {f : Value} {r r' : List V → Hp → VK → Prop} (h : CallR X f r) (h' : CallR X f r') : CallR X f (fun xs H Q => r xs H Q ∨ r' xs H Q) := by
  intro pins s σ H xs us Q I rx q
  rcases q with q | q
  · exact h pins s σ H xs us Q I rx q
  · exact h' pins s σ H xs us Q I rx q
abbrev DA := List D → (D → Prop) → Prop
/-- what a built-in may count on -/
def CallD (X : Cx) (F : Hp) (γ : Gm) (fv : Value) (f : DA) : Prop :=
  ∀ (H0 H : Hp) (σ : St) (env : List Sl) (c : Nat) (xs : List V) (ds : List D) (k : D → Prop) (Q : VK), Rep X.K F γ H0 H σ env c → HasL X.K H0 xs ds → f ds k → Kont X.K F γ H0 σ env c k Q → ∃ r, CallR X fv r ∧ r xs H Q
def wB1 (f : DA) (wa : WA) : WE := fun env c P => wa env c fun ds c1 => f ds fun d => P d c1
variable {x : Str} {p : Pos} {e : Expr} {es : List Expr} {wr : WA} {id T : String} {f : DA}
theorem dBuiltin (hc : CallD X F γ (.builtin id) f) (hm : X.mg x = none) (hv : bootBuiltins x = some (.builtin id)) (ha : PA X (e :: es) (tA X.K F γ wr)) (hg : Gl X x := by rfl) (hn : x ≠ "__name__" := by decide) (hdb : (x == ("__debug__" : Str)) = false := by decide)
    (he : starEach (e :: es) X.env = (false, eval e X.env) :: starEach es X.env := by rfl) (hpl : (backTo pos (starEach es X.env)).any (·.1) = false := by rfl) : PE X (.Call (.Name x p) (e :: es) [] pos) (tG X.K F γ (wB1 f wr)) := by
  refine ⟨fun pins s σ H Q I h => ?_⟩
  refine wpAny_Call_Name_kw (ld_blt I hg hm hv ?_ hn hdb)
  have h' : tA X.K F γ wr σ H fun vs H1 => ∃ r, CallR X (.builtin id) r ∧ r vs H1 Q := by
    obtain ⟨H0, env, c, P, R, q, k⟩ := h
    exact ⟨H0, env, c, _, R, q, fun ds c1 vs H1 H01 q1 s1 R1 h1 => hc H01 H1 σ env c1 vs ds _ Q R1 h1 q1 fun z u H' H0' ku s2 R2 h2 => k _ _ _ _ _ ku (s1.trans s2) R2 h2⟩
  exact PyProof.Rows.callWith_builtin1 (thn (ha.run pos pins s σ H _ I h') fun us s1 ⟨vs, H1, I1, r1, r, hr, q1⟩ => hr pins s1 σ H1 vs us Q I1 r1 q1) he hpl
theorem dType (hc : CallD X F γ (.type T) f) (hm : X.mg x = none) (hv : bootBuiltins x = some (.type T)) (ha : PA X (e :: es) (tA X.K F γ wr)) (hg : Gl X x := by rfl) (hn : x ≠ "__name__" := by decide) (hdb : (x == ("__debug__" : Str)) = false := by decide)
    (he : starEach (e :: es) X.env = (false, eval e X.env) :: starEach es X.env := by rfl) (hpl : (backTo pos (starEach es X.env)).any (·.1) = false := by rfl) : PE X (.Call (.Name x p) (e :: es) [] pos) (tG X.K F γ (wB1 f wr)) := by
  refine ⟨fun pins s σ H Q I h => ?_⟩
  refine wpAny_Call_Name_kw (ld_blt I hg hm hv ?_ hn hdb)
  have h' : tA X.K F γ wr σ H fun vs H1 => ∃ r, CallR X (.type T) r ∧ r vs H1 Q := by
    obtain ⟨H0, env, c, P, R, q, k⟩ := h
    exact ⟨H0, env, c, _, R, q, fun ds c1 vs H1 H01 q1 s1 R1 h1 => hc H01 H1 σ env c1 vs ds _ Q R1 h1 q1 fun z u H' H0' ku s2 R2 h2 => k _ _ _ _ _ ku (s1.trans s2) R2 h2⟩
  exact PyProof.Rows.callWith_type1 (thn (ha.run pos pins s σ H _ I h') fun us s1 ⟨vs, H1, I1, r1, r, hr, q1⟩ => hr pins s1 σ H1 vs us Q I1 r1 q1) he hpl
/-- f of one value -/
def one (f : D1) : DA := fun ds k => ∃ d, ds = [d] ∧ f d k
theorem one_inv {K : PySem.W.Frag} {H : Hp} {xs : List V} {ds : List D} {f : D1} {k : D → Prop} (h : HasL K H xs ds) (hf : one f ds k) : ∃ x d, xs = [x] ∧ ds = [d] ∧ Has K H x d ∧ f d k := by
  obtain ⟨d, rfl, q⟩ := hf
  cases h with
  | cons h1 h2 => cases h2; exact ⟨_, d, rfl, rfl, h1, q⟩
def lenD : D1
  | .str z, P => z.length ≤ sizeLine ∧ P (.int z.length)
  | .lst ds, P => P (.int ds.length)
  | .tup ds, P => P (.int ds.length)
  | _, _ => False
theorem b_len : CallD X F γ (.builtin "len") (one lenD) := by
  intro H0 H σ env c xs ds k Q R h hf hk
  obtain ⟨x, d, rfl, rfl, hx, q⟩ := one_inv h hf
  cases hx with
  | str z => exact ⟨_, call_len, _, _, rfl, ⟨q.1, rfl⟩, hk _ _ _ _ q.2 (Same.refl _) R (.int _)⟩
  | lst h1 h2 => exact ⟨_, call_len, _, _, rfl, .inl ⟨_, SqL.of (R.core.sub _ _ h1), rfl⟩, by rw [h2.length]; exact hk _ _ _ _ q (Same.refl _) R (.int _)⟩
  | tup h1 h2 => exact ⟨_, call_len, _, _, rfl, .inr ⟨_, SqT.of (R.core.sub _ _ h1), rfl⟩, by rw [h2.length]; exact hk _ _ _ _ q (Same.refl _) R (.int _)⟩
  | _ => exact (show False from q).elim
def absD : D1
  | .int i, P => P (.int (if i < 0 then -i else i))
  | _, _ => False
theorem b_abs : CallD X F γ (.builtin "abs") (one absD) := by
  intro H0 H σ env c xs ds k Q R h hf hk
  obtain ⟨x, d, rfl, rfl, hx, q⟩ := one_inv h hf
  cases hx with
  | int i => exact ⟨_, call_abs, i, rfl, hk _ _ _ _ q (Same.refl _) R (.int _)⟩
  | _ => exact (show False from q).elim
def intD : D1
  | .int i, P => P (.int i)
  | .bl b, P => P (.int (if b then 1 else 0))
  | _, _ => False
theorem b_int : CallD X F γ (.type "int") (one intD) := by
  intro H0 H σ env c xs ds k Q R h hf hk
  obtain ⟨x, d, rfl, rfl, hx, q⟩ := one_inv h hf
  cases hx with
  | int i => exact ⟨_, call_int1, .inl ⟨i, rfl, hk _ _ _ _ q (Same.refl _) R (.int _)⟩⟩
  | bl i => exact ⟨_, call_int1, .inr ⟨i, rfl, hk _ _ _ _ q (Same.refl _) R (.int _)⟩⟩
  | _ => exact (show False from q).elim
def strD : D1
  | .int i, P => i.natAbs.log2 < 1920 ∧ P (.str (toString i))
  | _, _ => False
theorem b_str : CallD X F γ (.type "str") (one strD) := by
  intro H0 H σ env c xs ds k Q R h hf hk
  obtain ⟨x, d, rfl, rfl, hx, q⟩ := one_inv h hf
  cases hx with
  | int i => exact ⟨_, call_str_int, i, rfl, q.1, hk _ _ _ _ q.2 (Same.refl _) R (.str _)⟩
  | _ => exact (show False from q).elim
/-! ### all, any -/
def D.bls : List D → Option (List Bool)
  | [] => some []
  | .bl b :: ds => (D.bls ds).map (b :: ·)
  | _ :: _ => none
theorem bls_of {K : PySem.W.Frag} {H : Hp} : ∀ {vs : List V} {ds : List D} {bs : List Bool}, HasL K H vs ds → D.bls ds = some bs → vs = bs.map V.bl
  | _, _, _, .nil, e => by cases e; rfl
  | _, _, bs, .cons (d := d) h t, e => by
    cases h with
    | bl b =>
      unfold D.bls at e
      cases q : D.bls _ with
      | none => rw [q] at e; cases e
      | some cs =>
        rw [q] at e
        cases e
        rw [bls_of t q]
        rfl
    | _ => cases e
def allD (any : Bool) : D1
  | .lst ds, P => ∃ bs, D.bls ds = some bs ∧ P (.bl (if any then bs.any (fun b => b) else bs.all (fun b => b)))
  | _, _ => False
theorem b_all (hc : X.calm = true) : CallD X F γ (.builtin "all") (one (allD false)) := by
  intro H0 H σ env c xs ds k Q R h hf hk
  obtain ⟨x, d, rfl, rfl, hx, q⟩ := one_inv h hf
  cases hx with
  | lst h1 h2 =>
    obtain ⟨bs, e, q⟩ := (show ∃ bs, _ ∧ _ from q)
    exact ⟨_, cr_all hc, _, bs, rfl, by rw [← bls_of h2 e]; exact SqL.of (R.core.sub _ _ h1), hk _ _ _ _ q (Same.refl _) R (.bl _)⟩
  | _ => exact (show False from q).elim
theorem b_any (hc : X.calm = true) : CallD X F γ (.builtin "any") (one (allD true)) := by
  intro H0 H σ env c xs ds k Q R h hf hk
  obtain ⟨x, d, rfl, rfl, hx, q⟩ := one_inv h hf
  cases hx with
  | lst h1 h2 =>
    obtain ⟨bs, e, q⟩ := (show ∃ bs, _ ∧ _ from q)
    exact ⟨_, cr_any hc, _, bs, rfl, by rw [← bls_of h2 e]; exact SqL.of (R.core.sub _ _ h1), hk _ _ _ _ q (Same.refl _) R (.bl _)⟩
  | _ => exact (show False from q).elim
/-! ### tuple(x), list(x) -/
/-- the signs of a text, as texts -/
def signV (z : Str) : List V := z.cps.toList.map fun c => .str ⟨#[c]⟩
def signs (z : Str) : List D := z.cps.toList.map fun c => .str ⟨#[c]⟩
theorem signs_has {K : PySem.W.Frag} {H : Hp} {z : Str} : HasL K H (signV z) (signs z) := by
  unfold signV signs
  induction z.cps.toList with
  | nil => exact .nil
  | cons c cs ih => exact .cons (.str _) ih
theorem vals_sign : ∀ {cs : List Nat} {us : List Value}, us.length = cs.length → (∀ (j : Nat) (v : Value), us[j]? = some v → ∃ c u, cs[j]? = some c ∧ v = Value.str ⟨#[c]⟩ u) → Vals (cs.map fun c => V.str ⟨#[c]⟩) us
  | [], [], _, _ => .nil
  | [], _ :: _, h, _ => by cases h
  | _ :: _, [], h, _ => by cases h
  | c :: cs, u :: us, h, k => by
    refine .cons ?_ (vals_sign (Nat.succ.inj h) fun j v e => k (j + 1) v e)
    obtain ⟨c', t, e1, e2⟩ := k 0 u rfl
    cases e1
    exact ⟨t, e2⟩
theorem vals_signs {z : Str} {acc : Array Value} (h : ItemsOf (SignAt z) acc z.cps.size) : Vals (signV z) acc.toList :=
  vals_sign (by rw [Array.length_toList, Array.length_toList]; exact h.1) fun j v e => by
    obtain ⟨c, u, h1, h2⟩ := h.2 j v (by rw [← Array.getElem?_toList]; exact e)
    exact ⟨c, u, by rw [Array.getElem?_toList]; exact h1, h2⟩
theorem cr_list_str (hc : X.calm = true) : CallR X (.type "list") (fun xs H Q => ∃ z, xs = [.str z] ∧ z.length ≤ sizeLine ∧ ∀ l, H l = none → Q (.ref l) (upd H l (.lst (signV z)))) := by
  intro pins s σ H xs us Q I r h
  obtain ⟨z, rfl, hz, q⟩ := h
  obtain ⟨u, rfl, t, rfl⟩ := vals1 r
  refine call_list_str (I.ok.hd hc) z t (fun h' tk acc c' kp e ha => ?_) hz
  exact ⟨.ref s.heap.objs.size, _, I.laid (t' := tk) kp (Nat.le_refl _) (show ObjOk X.prog X.w _ h' _ (.lst (signV z)) from ⟨by rw [signV, List.length_map, Array.length_toList]; exact hz, acc.toList, c', vals_signs ha, by rw [Array.toArray_toList]; exact e⟩), rfl, q _ (I.hok.fresh (Nat.le_refl _))⟩
theorem cr_tuple_str (hc : X.calm = true) : CallR X (.type "tuple") (fun xs H Q => ∃ z, xs = [.str z] ∧ z.length ≤ sizeLine ∧ ∀ l, H l = none → Q (.ref l) (upd H l (.tup (signV z)))) := by
  intro pins s σ H xs us Q I r h
  obtain ⟨z, rfl, hz, q⟩ := h
  obtain ⟨u, rfl, t, rfl⟩ := vals1 r
  refine call_tuple_str (I.ok.hd hc) z t (fun h' tk acc kp ha => ?_) hz
  have I1 : Inv X pins σ H { s with heap := h', toks := tk } := I.kept kp
  have I2 : Inv X pins σ (upd H h'.objs.size (.tup (signV z))) { s with heap := h'.push { cls := .type "tuple", data := .seq acc }, toks := tk } :=
    I1.laid (t' := tk) (fun b o e => Heap.get?_push_of_some _ e) (Nat.le_refl _) (show ObjOk X.prog X.w _ _ _ (.tup (signV z)) from ⟨by rw [signV, List.length_map, Array.length_toList]; exact hz, acc.toList, vals_signs ha, by rw [Array.toArray_toList]; exact IsTup.new _ _⟩)
  exact ⟨.ref h'.objs.size, _, I2, rfl, q _ (I1.hok.fresh (Nat.le_refl _))⟩
def toTupD : D1
  | .lst ds, P => P (.tup ds)
  | .tup ds, P => P (.tup ds)
  | .str z, P => z.length ≤ sizeLine ∧ P (.tup (signs z))
  | _, _ => False
theorem b_tuple (hc : X.calm = true) : CallD X F γ (.type "tuple") (one toTupD) := by
  intro H0 H σ env c xs ds k Q R h hf hk
  obtain ⟨x, d, rfl, rfl, hx, q⟩ := one_inv h hf
  cases hx with
  | lst h1 h2 => exact ⟨_, call_tuple_of, _, _, rfl, .inl ⟨SqL.of (R.core.sub _ _ h1), fun p hp => hk _ _ _ _ q (Same.new (R.core.sub.free hp)) (R.alloc hp) (.tup upd_same (h2.mono (Same.new (R.core.sub.free hp))))⟩⟩
  | tup h1 h2 => exact ⟨_, call_tuple_of, _, _, rfl, .inr ⟨SqT.of (R.core.sub _ _ h1), hk _ _ _ _ q (Same.refl _) R (.tup h1 h2)⟩⟩
  | str z => exact ⟨_, cr_tuple_str hc, z, rfl, q.1, fun p hp => hk _ _ _ _ q.2 (Same.new (R.core.sub.free hp)) (R.alloc hp) (.tup upd_same signs_has)⟩
  | _ => exact (show False from q).elim
def toLstD : D1
  | .lst ds, P => P (.lst ds)
  | .tup ds, P => P (.lst ds)
  | .str z, P => z.length ≤ sizeLine ∧ P (.lst (signs z))
  | _, _ => False
theorem b_list (hc : X.calm = true) : CallD X F γ (.type "list") (one toLstD) := by
  intro H0 H σ env c xs ds k Q R h hf hk
  obtain ⟨x, d, rfl, rfl, hx, q⟩ := one_inv h hf
  cases hx with
  | lst h1 h2 => exact ⟨_, call_list_of, _, _, rfl, .inl (SqL.of (R.core.sub _ _ h1)), fun p hp => hk _ _ _ _ q (Same.new (R.core.sub.free hp)) (R.alloc hp) (.lst upd_same (h2.mono (Same.new (R.core.sub.free hp))))⟩
  | tup h1 h2 => exact ⟨_, call_list_of, _, _, rfl, .inr (SqT.of (R.core.sub _ _ h1)), fun p hp => hk _ _ _ _ q (Same.new (R.core.sub.free hp)) (R.alloc hp) (.lst upd_same (h2.mono (Same.new (R.core.sub.free hp))))⟩
  | str z => exact ⟨_, cr_list_str hc, z, rfl, q.1, fun p hp => hk _ _ _ _ q.2 (Same.new (R.core.sub.free hp)) (R.alloc hp) (.lst upd_same signs_has)⟩
  | _ => exact (show False from q).elim
/-! ### kinds -/
def D.ty : D → String
  | .non => "NoneType" | .bl _ => "bool" | .int _ => "int" | .str _ => "str" | .lst _ => "list" | .tup _ => "tuple" | .dic _ _ => "dict" | .fn _ => "function" | .exc _ _ _ => "Exception"
/-- neither a def nor an exception -/
def D.nf : D → Prop → Prop
  | .fn _, _ => False | .exc _ _ _, _ => False | _, p => p
theorem D.nf_pure {d : D} {p : Prop} (h : d.nf p) : p := by
  cases d <;> first | exact h | exact False.elim h
def D.isF : D → Bool | .fn _ => true | .exc _ _ _ => true | _ => false
theorem D.nf_of {d : D} {p : Prop} (h : d.isF = false) (q : p) : d.nf p := by
  cases d <;> first | exact q | exact Bool.noConfusion h
theorem D.isF_of {d : D} {p : Prop} (h : d.nf p) : d.isF = false := by
  cases d <;> first | rfl | exact False.elim h
theorem Has.ty {K : PySem.W.Frag} {H0 H : Hp} {v : V} {d : D} (h : Has K H0 v d) (s : Same H0 H) (hf : d.isF = false) : TyOf K H v (.type d.ty) := by
  cases h with
  | non => exact .non
  | bl b => exact .bl b
  | int i => exact .int i
  | str x => exact .str x
  | lst h1 h2 => exact .lst (s _ _ h1)
  | tup h1 h2 => exact .tup (s _ _ h1)
  | dic h1 h2 h3 => exact .dK (s _ _ h1)
  | fn h => exact Bool.noConfusion hf
  | exc h1 h2 h3 h4 h5 => exact Bool.noConfusion hf
def kInt : D → Bool | .bl _ => true | .int _ => true | _ => false
def kBool : D → Bool | .bl _ => true | _ => false
def kStr : D → Bool | .str _ => true | _ => false
def kList : D → Bool | .lst _ => true | _ => false
def kTuple : D → Bool | .tup _ => true | _ => false
def kDict : D → Bool | .dic _ _ => true | _ => false
theorem k_int (d : D) : kitB d.ty "int" = some (kInt d) := by cases d <;> (simp only [D.ty, kInt]; decide +kernel)
theorem k_bool (d : D) : kitB d.ty "bool" = some (kBool d) := by cases d <;> (simp only [D.ty, kBool]; decide +kernel)
theorem k_str (d : D) : kitB d.ty "str" = some (kStr d) := by cases d <;> (simp only [D.ty, kStr]; decide +kernel)
theorem k_list (d : D) : kitB d.ty "list" = some (kList d) := by cases d <;> (simp only [D.ty, kList]; decide +kernel)
theorem k_tuple (d : D) : kitB d.ty "tuple" = some (kTuple d) := by cases d <;> (simp only [D.ty, kTuple]; decide +kernel)
theorem k_dict (d : D) : kitB d.ty "dict" = some (kDict d) := by cases d <;> (simp only [D.ty, kDict]; decide +kernel)
/-- isinstance(a, T) -/
def wIsi (f : D → Bool) (w : WE) : WE := fun env c P => w env c fun d c1 => d.nf (P (.bl (f d)) c1)
theorem dIsi {a : Expr} {wa : WE} {Tn : Str} {T : String} {g : D → Bool} {p2 : Pos} (hk : ∀ d : D, kitB d.ty T = some (g d)) (hm : X.mg "isinstance" = none) (hT : X.mg Tn = none) (hv : bootBuiltins Tn = some (.type T)) (ha : PE X a (tG X.K F γ wa)) (hg : Gl X "isinstance" := by rfl) (hgT : Gl X Tn := by rfl) (hn : Tn ≠ "__name__" := by decide) (hdb : (Tn == ("__debug__" : Str)) = false := by decide)
    (hs : starEach [a, .Name Tn p2] X.env = (false, eval a X.env) :: starEach [.Name Tn p2] X.env := by rfl) (hs2 : starEach [.Name Tn p2] X.env = (false, eval (.Name Tn p2) X.env) :: starEach [] X.env := by rfl) (hpl : (backTo pos (starEach [.Name Tn p2] X.env)).any (·.1) = false := by rfl) :
    PE X (.Call (.Name "isinstance" p) [a, .Name Tn p2] [] pos) (tG X.K F γ (wIsi g wa)) := by
  refine PE.imp (pe_callB call_isi hg hm (by decide +kernel) (pa_cons ha (pa_cons (pe_bltn (v := .ty T) hgT hT hv rfl hn hdb) pa_nil hs2) hs) (by decide) (by decide) hs hpl) fun σ H Q h => ?_
  obtain ⟨H0, env, c, P, R, q, k⟩ := h
  refine ⟨H0, env, c, _, R, q, fun d c1 v H1 H01 q1 s1 R1 h1 => ?_⟩
  exact ⟨v, .ty T, _, .type T, g d, rfl, .ty T, .base (h1.ty R1.core.sub (D.isF_of q1)), kit_ty (hk d), k _ _ _ _ _ (D.nf_pure q1) s1 R1 (.bl _)⟩
end
end L2.DL

set_option Elab.async false
set_option linter.all false
set_option autoImplicit false
set_option maxRecDepth 100000
namespace L2.DL
open PySem PySem.Spec PyProof.Rows
mutual
theorem noDict : ∀ d : D, d.flat = true → d.p.hasDict = false
  | .non, _ => rfl
  | .bl _, _ => rfl
  | .int _, _ => rfl
  | .str _, _ => rfl
  | .lst ds, f => noDicts ds f
  | .tup ds, f => noDicts ds f
  | .dic _ _, f => Bool.noConfusion f
theorem noDicts : ∀ ds : List D, D.flats ds = true → PyData.hasDictAll (D.ps ds) = false
  | [], _ => rfl
  | d :: ds, f => by
    have f' : (D.flat d && D.flats ds) = true := f
    rw [Bool.and_eq_true] at f'
    show (PyData.hasDict d.p || PyData.hasDictAll (D.ps ds)) = false
    rw [noDict d f'.1, noDicts ds f'.2]
    rfl
end
section
variable {X : Cx} {F : Hp} {γ : Gm} {pos : Pos}
/-! ### repr -/
def rRepr (K : PySem.W.Frag) : List V → Hp → VK → Prop := fun xs H Q => ∃ v d, xs = [v] ∧ Has K H v d ∧ d.flat = true ∧ d.p.showable = true ∧ d.p.depth ≤ 50 ∧ d.p.shown.length ≤ sizeLine ∧ Q (.str d.p.shown) H
theorem call_reprD (hu : X.A.units + 64 < cLine) (hgd : X.A.guards = some []) : CallR X (.builtin "repr") (rRepr X.K) := by
  intro pins s σ H xs us Q I r h
  obtain ⟨v, d, rfl, hv, hf, hs, hd, hz, q⟩ := h
  obtain ⟨u, rfl, ru⟩ := vals1 r
  cases hv with
  | fn h => exact Bool.noConfusion hf
  | exc h1 h2 h3 h4 h5 => exact Bool.noConfusion hf
  | non =>
    cases ru
    exact P.repr_of_none ⟨.str _, H, I.tok _, ⟨_, rfl⟩, q⟩
  | bl b =>
    cases ru
    exact P.repr_of_bool ⟨.str _, H, I.tok _, ⟨_, rfl⟩, q⟩
  | int i =>
    obtain ⟨t, rfl⟩ := ru
    exact P.repr_of_int (of_decide_eq_true hs) ⟨.str _, H, I.tok _, ⟨_, rfl⟩, q⟩
  | str x =>
    obtain ⟨t, rfl⟩ := ru
    exact P.repr_of_str (hsz := hz) ⟨.str _, H, I.tok _, ⟨_, rfl⟩, q⟩
  | @lst a vs ds h1 h2 =>
    cases ru
    have hdp := Has.dp (Same.refl H) _ _ (Has.lst h1 h2) hf
    obtain ⟨as, rd⟩ := Dp.reads I _ _ _ hdp (show RelV (V.ref a) (Value.ref a) from rfl)
    have hnd : (D.lst ds).p.hasDict = false := noDict _ hf
    refine PySem.repr_of_reads' rd hs (PyData.noDict_hsm hnd) hgd (by omega) (fun _ _ e => e) (fun h' u tk hk => ?_) hz
    exact ⟨.str _, H, I.kept hk, ⟨_, rfl⟩, q⟩
  | @tup a vs ds h1 h2 =>
    cases ru
    have hdp := Has.dp (Same.refl H) _ _ (Has.tup h1 h2) hf
    obtain ⟨as, rd⟩ := Dp.reads I _ _ _ hdp (show RelV (V.ref a) (Value.ref a) from rfl)
    have hnd : (D.tup ds).p.hasDict = false := noDict _ hf
    refine PySem.repr_of_reads' rd hs (PyData.noDict_hsm hnd) hgd (by omega) (fun _ _ e => e) (fun h' u tk hk => ?_) hz
    exact ⟨.str _, H, I.kept hk, ⟨_, rfl⟩, q⟩
  | dic h1 h2 h3 => exact Bool.noConfusion hf
/-- repr(x) -/
def reprD : D1 := fun d P => d.flat = true ∧ d.p.showable = true ∧ d.p.depth ≤ 50 ∧ d.p.shown.length ≤ sizeLine ∧ P (.str d.p.shown)
theorem b_repr (hu : X.A.units + 64 < cLine) (hgd : X.A.guards = some []) : CallD X F γ (.builtin "repr") (one reprD) := by
  intro H0 H σ env c xs ds k Q R h hf hk
  obtain ⟨x, d, rfl, rfl, hx, q⟩ := one_inv h hf
  obtain ⟨h1, h2, h3, h4, q⟩ := q
  exact ⟨_, call_reprD hu hgd, x, d, rfl, hx.mono R.core.sub, h1, h2, h3, h4, hk _ _ _ _ q (Same.refl _) R (.str _)⟩

/-! ### methods of texts -/
def D.strs : List D → Option (List Str)
  | [] => some []
  | .str b :: ds => (D.strs ds).map (b :: ·)
  | _ :: _ => none
theorem strs_of {K : PySem.W.Frag} {H : Hp} : ∀ {vs : List V} {ds : List D} {bs : List Str}, HasL K H vs ds → D.strs ds = some bs → vs = bs.map V.str
  | _, _, _, .nil, e => by cases e; rfl
  | _, _, bs, .cons (d := d) h t, e => by
    cases h with
    | str b =>
      unfold D.strs at e
      cases q : D.strs _ with
      | none => rw [q] at e; cases e
      | some cs =>
        rw [q] at e
        cases e
        rw [strs_of t q]
        rfl
    | _ => cases e
/-- a method of a text with one argument -/
def MethD (X : Cx) (F : Hp) (γ : Gm) (id : String) (f : Str → D1) : Prop :=
  ∀ (H0 H : Hp) (σ : St) (env : List Sl) (c : Nat) (z : Str) (y : V) (d : D) (k : D → Prop) (Q : VK), Rep X.K F γ H0 H σ env c → Has X.K H0 y d → f z d k → Kont X.K F γ H0 σ env c k Q → ∃ r, MtR X id r ∧ r (.str z) [y] H Q
def wMt (f : Str → D1) (wo wa : WE) : WE := fun env c P => wo env c fun o c1 => ∃ z, o = .str z ∧ wa env c1 fun d c2 => f z d fun u => P u c2
theorem MtR.any {id : String} {ι : Type} {r : ι → V → List V → Hp → VK → Prop} (h : ∀ i, MtR X id (r i)) : MtR X id (fun x xs H Q => ∃ i, r i x xs H Q) := fun pins s σ H x xs v us Q I rx rxs ⟨i, q⟩ => h i pins s σ H x xs v us Q I rx rxs q
def MtAny (X : Cx) (id : String) : V → List V → Hp → VK → Prop := fun x xs H Q => ∃ r, MtR X id r ∧ r x xs H Q
theorem mt_any {id : String} : MtR X id (MtAny X id) := fun pins s σ H x xs v us Q I rx rxs ⟨r, h, q⟩ => h pins s σ H x xs v us Q I rx rxs q
theorem dMt {o e : Expr} {wo wa : WE} {name : Str} {id : String} {f : Str → D1} {apos cpos : Pos} (hf : MethD X F γ id f) (slot : Slot "str" name id) (hty : typeOf (.builtin id) = pure (.type "method_descriptor")) (ho : PE X o (tG X.K F γ wo)) (ha : PE X e (tG X.K F γ wa))
    (hbase : attributeBase o name X.env (eval o X.env) = eval o X.env := by rfl)
    (hfew : ((backTo cpos (starEach [e] X.env)).all (fun x => !x.1) && (backToKw cpos (keywordEach [] X.env)).all (fun x => x.1.isSome)
      && decide ([e].length + ([] : List Keyword).length + (if ([] : List Keyword).isEmpty then 0 else 1) < 30)) = true := by rfl)
    (hline : (apos.endLine == cpos.line) = true := by rfl) (hs : starEach [e] X.env = (false, eval e X.env) :: starEach [] X.env := by rfl) (hplain : (backTo cpos (starEach [] X.env)).any (·.1) = false := by rfl) :
    PE X (.Call (.Attribute o name apos) [e] [] cpos) (tG X.K F γ (wMt f wo wa)) :=
  PE.imp (pe_bm PySem.F.plainAttrs_str slot hty mt_any ho (pa_cons ha pa_nil hs) hbase hfew hline hs hplain) fun σ H Q h => by
  obtain ⟨H0, env, c, P, R, q, k⟩ := h
  refine ⟨H0, env, c, _, R, q, fun d c1 v H1 H01 ⟨z, ez, q1⟩ s1 R1 h1 => ?_⟩
  subst ez
  cases h1
  refine ⟨rfl, H01, env, c1, _, R1, q1, fun d2 c2 v2 H2 H02 q2 s2 R2 h2 => ?_⟩
  exact hf H02 H2 σ env c2 z v2 d2 _ Q R2 h2 q2 fun u w H' H0' ku s3 R3 h3 => k _ _ _ _ _ ku ((s1.trans s2).trans s3) R3 h3
def joinD : Str → D1 := fun z d P => match d with
  | .lst ds => ∃ ys, D.strs ds = some ys ∧ (ys.map (·.length)).sum + ys.length * z.length ≤ 16777216 ∧ P (.str (Txt.join z ys))
  | .tup ds => ∃ ys, D.strs ds = some ys ∧ (ys.map (·.length)).sum + ys.length * z.length ≤ 16777216 ∧ P (.str (Txt.join z ys))
  | _ => False
theorem m_join : MethD X F γ "str.join" joinD := by
  intro H0 H σ env c z y d k Q R hy hf hk
  cases hy with
  | lst h1 h2 =>
    obtain ⟨ys, e, hz, q⟩ := (show ∃ ys, _ ∧ _ ∧ _ from hf)
    exact ⟨_, mt_join, z, _, ys, rfl, rfl, .inl (by rw [← strs_of h2 e]; exact SqL.of (R.core.sub _ _ h1)), hz, hk _ _ _ _ q (Same.refl _) R (.str _)⟩
  | tup h1 h2 =>
    obtain ⟨ys, e, hz, q⟩ := (show ∃ ys, _ ∧ _ ∧ _ from hf)
    exact ⟨_, mt_join, z, _, ys, rfl, rfl, .inr (by rw [← strs_of h2 e]; exact SqT.of (R.core.sub _ _ h1)), hz, hk _ _ _ _ q (Same.refl _) R (.str _)⟩
  | _ => exact (show False from hf).elim
def countD : Str → D1 := fun z d P => match d with
  | .str y => P (.int (Txt.count z y))
  | _ => False
theorem m_count : MethD X F γ "str.count" countD := by
  intro H0 H σ env c z y d k Q R hy hf hk
  cases hy with
  | str x => exact ⟨_, mt_count, z, x, rfl, rfl, hk _ _ _ _ hf (Same.refl _) R (.int _)⟩
  | _ => exact (show False from hf).elim
def startswithD : Str → D1 := fun z d P => match d with
  | .str y => P (.bl (Txt.startswith z y))
  | _ => False
theorem m_startswith : MethD X F γ "str.startswith" startswithD := by
  intro H0 H σ env c z y d k Q R hy hf hk
  cases hy with
  | str x => exact ⟨_, mt_startswith, z, x, rfl, rfl, hk _ _ _ _ hf (Same.refl _) R (.bl _)⟩
  | _ => exact (show False from hf).elim

/-! ### what is walked -/
def D.items : D → Option (List D)
  | .lst ds => some ds
  | .tup ds => some ds
  | .str z => some (signs z)
  | _ => none
def wIter (w : WE) : WI := fun env c P => w env c fun d c1 => ∃ ds, d.items = some ds ∧ P ds c1
theorem walkD_list {K : PySem.W.Frag} {H0 : Hp} {a : Addr} {vs : List V} {ds : List D} (h1 : H0 a = some (.lst vs)) (h2 : HasL K H0 vs ds) : WalkD K (Itl K a) ds H0 := by
  have w : Walk (Itl K a) vs.length (fun H => SqL K H a vs) (YAt vs) := walk_list
  rw [h2.length] at w
  refine w.mono (fun H s => SqL.of (s _ _ h1)) fun i H x H' hi s y => ?_
  obtain ⟨e, y2⟩ := y
  obtain ⟨d, hd, hx⟩ := h2.get y2
  exact ⟨d, hd, .inl ⟨e, hx⟩⟩
theorem walkD_tup {K : PySem.W.Frag} {H0 : Hp} {a : Addr} {vs : List V} {ds : List D} (h1 : H0 a = some (.tup vs)) (h2 : HasL K H0 vs ds) : WalkD K (Itt K a) ds H0 := by
  have w : Walk (Itt K a) vs.length (fun H => SqT K H a vs) (YAt vs) := walk_tup
  rw [h2.length] at w
  refine w.mono (fun H s => SqT.of (s _ _ h1)) fun i H x H' hi s y => ?_
  obtain ⟨e, y2⟩ := y
  obtain ⟨d, hd, hx⟩ := h2.get y2
  exact ⟨d, hd, .inl ⟨e, hx⟩⟩
theorem walkD_str {K : PySem.W.Frag} {H0 : Hp} {z : Str} : WalkD K (Its z) (signs z) H0 := by
  have w : Walk (Its z) z.cps.size (fun _ => True) _ := walk_str
  have e : z.cps.size = (signs z).length := by simp [signs]
  rw [e] at w
  refine w.mono (fun _ _ => trivial) fun i H x H' hi s y => ?_
  obtain ⟨e, c, hc, rfl⟩ := y
  refine ⟨.str ⟨#[c]⟩, ?_, .inl ⟨e, .str _⟩⟩
  unfold signs
  rw [List.getElem?_map, Array.getElem?_toList, hc]
  rfl
theorem dpAny {tg e : Expr} {we : WE} (he : PE X e (tG X.K F γ we)) : PI X tg e (iG X.K F γ (wIter we)) := by
  refine ⟨fun pins s σ H R I h => ?_⟩
  have h' : tG X.K F γ we σ H fun x H1 => (∃ a, x = .ref a ∧ (∃ xs, SqL X.K H1 a xs) ∧ R (Itl X.K a) H1) ∨ (∃ a, x = .ref a ∧ (∃ xs, SqT X.K H1 a xs) ∧ R (Itt X.K a) H1) ∨ ∃ z, x = .str z ∧ R (Its z) H1 := by
    obtain ⟨H0, env, c, P, RR, q, k⟩ := h
    refine ⟨H0, env, c, _, RR, q, fun d c1 v H1 H01 ⟨ds, e1, q1⟩ s1 R1 h1 => ?_⟩
    cases h1 with
    | lst h1 h2 => cases e1; exact .inl ⟨_, rfl, ⟨_, SqL.of (R1.core.sub _ _ h1)⟩, k _ _ _ _ _ q1 s1 R1 (walkD_list h1 h2)⟩
    | tup h1 h2 => cases e1; exact .inr (.inl ⟨_, rfl, ⟨_, SqT.of (R1.core.sub _ _ h1)⟩, k _ _ _ _ _ q1 s1 R1 (walkD_tup h1 h2)⟩)
    | str z => cases e1; exact .inr (.inr ⟨z, rfl, k _ _ _ _ _ q1 s1 R1 walkD_str⟩)
    | _ => cases e1
  refine thn (he.run pins s σ H _ I h') fun v s1 ⟨x, H1, I1, r1, q1⟩ => ?_
  rcases q1 with ⟨a, rfl, ⟨xs, hq⟩, q⟩ | ⟨a, rfl, ⟨xs, hq⟩, q⟩ | ⟨z, rfl, q⟩
  · cases r1
    obtain ⟨its, rv, p, hz⟩ := I1.list hq
    exact wpAny_pyIter_list p.isList (pi_one (tk := s1.toks) I1 _ (turn_list a _) ⟨_, Heap.get?_push_size _ rfl, rfl, rfl⟩ q)
  · cases r1
    obtain ⟨its, rv, p, hz⟩ := I1.tuple hq
    exact wpAny_pyIter_tuple (show s1.heap.IsTuple a its.toArray from p) (pi_one (tk := s1.toks) I1 _ (turn_tuple a _) ⟨_, Heap.get?_push_size _ rfl, rfl, rfl⟩ q)
  · obtain ⟨t, rfl⟩ := r1
    cases ha : z.cps.all (· < 128)
    · exact wpAny_pyIter_wide ha (pi_one (tk := s1.toks) I1 _ (turn_str _ z t "str_iterator" (.inr rfl)) ⟨_, Heap.get?_push_size _ rfl, rfl, rfl⟩ q)
    · exact wpAny_pyIter_ascii ha (pi_one (tk := s1.toks) I1 _ (turn_str _ z t "str_ascii_iterator" (.inl rfl)) ⟨_, Heap.get?_push_size _ rfl, rfl, rfl⟩ q)
def rangeD (lo : Int) (n : Nat) : List D := (List.range n).map fun (i : Nat) => D.int (lo + (i : Nat))
def rangeC (lo c : Int) (n : Nat) : List D := (List.range n).map fun (i : Nat) => D.int (lo + (i : Nat) * c)
def wRng1 (w : WE) : WI := fun env c P => w env c fun d c1 => ∃ j, d = .int j ∧ -(2 ^ 62) ≤ j ∧ j < 2 ^ 62 ∧ P (rangeD 0 j.toNat) c1
def wRng2 (w u : WE) : WI := fun env c P => w env c fun d c1 => u env c1 fun e c2 => ∃ i j, d = .int i ∧ e = .int j ∧ (-(2 ^ 62) ≤ i ∧ i < 2 ^ 62 ∧ -(2 ^ 62) ≤ j ∧ j < 2 ^ 62) ∧ P (rangeD i (j - i).toNat) c2
theorem walkD_range {K : PySem.W.Frag} {H0 : Hp} {lo : Int} {n : Nat} : WalkD K (Itr lo n) (rangeD lo n) H0 := by
  have w : Walk (Itr lo n) n (fun _ => True) _ := walk_range
  have e : n = (rangeD lo n).length := by simp [rangeD]
  have w' : Walk (Itr lo n) (rangeD lo n).length (fun _ => True) (YFn fun i => .int (lo + i)) := by rw [← e]; exact w
  refine w'.mono (fun _ _ => trivial) fun i H x H' hi s y => ?_
  obtain ⟨e1, e2⟩ := y
  refine ⟨.int (lo + i), ?_, .inl ⟨e1, by rw [e2]; exact .int _⟩⟩
  rw [← e] at hi
  simp [rangeD, hi]
theorem walkD_rangeC {K : PySem.W.Frag} {H0 : Hp} {lo c : Int} {n : Nat} : WalkD K (Itc lo c n) (rangeC lo c n) H0 := by
  have w : Walk (Itc lo c n) n (fun _ => True) _ := walk_rangeC
  have e : n = (rangeC lo c n).length := by simp [rangeC]
  have w' : Walk (Itc lo c n) (rangeC lo c n).length (fun _ => True) (YFn fun i => .int (lo + (i : Nat) * c)) := by rw [← e]; exact w
  refine w'.mono (fun _ _ => trivial) fun i H x H' hi s y => ?_
  obtain ⟨e1, e2⟩ := y
  refine ⟨.int (lo + (i : Nat) * c), ?_, .inl ⟨e1, by rw [e2]; exact .int _⟩⟩
  rw [← e] at hi
  simp [rangeC, hi]
theorem dpRng1 {tg a : Expr} {wa : WE} {p pos : Pos} (hm : X.mg "range" = none) (ha : PE X a (tG X.K F γ wa)) (hg : Gl X "range" := by rfl) (hs : starEach [a] X.env = [(false, eval a X.env)] := by rfl) : PI X tg (.Call (.Name "range" p) [a] [] pos) (iG X.K F γ (wRng1 wa)) :=
  PI.imp (pi_range1 hg hm (pa_cons ha pa_nil hs) hs) fun σ H R h => by
  obtain ⟨H0, env, c, P, RR, q, k⟩ := h
  refine ⟨H0, env, c, _, RR, q, fun d c1 v H1 H01 ⟨j, e, q1, q2, q3⟩ s1 R1 h1 => ?_⟩
  subst e
  cases h1
  exact ⟨j, rfl, q1, q2, k _ _ _ _ _ q3 s1 R1 walkD_range⟩
theorem dpRng2 {tg a b : Expr} {wa wb : WE} {p pos : Pos} (hm : X.mg "range" = none) (ha : PE X a (tG X.K F γ wa)) (hb : PE X b (tG X.K F γ wb)) (hg : Gl X "range" := by rfl) (hs : starEach [a, b] X.env = [(false, eval a X.env), (false, eval b X.env)] := by rfl) (hs2 : starEach [b] X.env = [(false, eval b X.env)] := by rfl)
    (hs3 : starEach [a, b] X.env = (false, eval a X.env) :: starEach [b] X.env := by rfl) : PI X tg (.Call (.Name "range" p) [a, b] [] pos) (iG X.K F γ (wRng2 wa wb)) :=
  PI.imp (pi_range2 hg hm (pa_cons ha (pa_cons hb pa_nil hs2) hs3) hs hs2) fun σ H R h => by
  obtain ⟨H0, env, c, P, RR, q, k⟩ := h
  refine ⟨H0, env, c, _, RR, q, fun d c1 v H1 H01 q1 s1 R1 h1 => ?_⟩
  refine ⟨H01, env, c1, _, R1, q1, fun e c2 u H2 H02 ⟨i, j, e1, e2, hb, q2⟩ s2 R2 h2 => ?_⟩
  subst e1 e2
  cases h1
  cases h2
  exact ⟨i, j, rfl, hb, k _ _ _ _ _ q2 (s1.trans s2) R2 walkD_range⟩
end
end L2.DL

set_option Elab.async false
set_option linter.all false
set_option autoImplicit false
set_option maxRecDepth 100000
namespace L2.DL
open PySem PySem.Spec PyProof.Rows
section
variable {X : Cx} {F : Hp} {γ : Gm} {pos : Pos}
/-! ### the gauge, opened: its three items are known -/
def wOpen (i : Nat) (w : WS) : WS := fun E env c => env[i]? = some .gau ∧ ∀ cs a r, (∀ d ∈ cs, ∃ n, d = D.int n) → 0 ≤ a → a ≤ (c : Int) → 0 ≤ r → w E (env.set i (.gx cs a r)) (c + 1)
def gxAt : Int → List D → Int → Int → D
  | 0, cs, _, _ => .lst cs | 1, _, a, _ => .int a | _, _, _, r => .int r
def wGx (i : Nat) (k : Int) : WE := fun env c P => (k = 0 ∨ k = 1 ∨ k = 2) ∧ ∃ cs a r, env[i]? = some (.gx cs a r) ∧ P (gxAt k cs a r) c
def wGxSet (i : Nat) (k : Int) (w : WE) : WS := fun E env c => w env c fun d c1 => ∃ cs a r n, env[i]? = some (.gx cs a r) ∧ d = .int n ∧ 0 ≤ n ∧ ((k = 1 ∧ E.nx (env.set i (.gx cs n r)) (max c1 n.toNat)) ∨ (k = 2 ∧ E.nx (env.set i (.gx cs a n)) c1))
theorem Rep.gx_at {K : PySem.W.Frag} {H0 H : Hp} {σ : St} {env : List Sl} {c : Nat} (R : Rep K F γ H0 H σ env c) {i : Nat} {cs : List D} {a r : Int} (e : env[i]? = some (.gx cs a r)) : ∃ g ca, σ[i]? = some (some (.ref g)) ∧ γ.g = some g ∧ H g = some (.lst [.ref ca, .int a, .int r]) ∧ Has K H0 (.ref ca) (.lst cs) := by
  have hl := R.len
  obtain ⟨hi, _⟩ := List.getElem?_eq_some_iff.mp e
  have h2 : σ[i]? = some σ[i] := List.getElem?_eq_getElem (by omega)
  obtain ⟨g, ca, e2, eg, hg, q⟩ := R.at_ i _ _ h2 e
  exact ⟨g, ca, by rw [h2, e2], eg, hg, q⟩
theorem dssOpen {rest : List Stmt} {w : WS} (i : Nat) (h : PSs X rest (tS X.K F γ w)) : PSs X rest (tS X.K F γ (wOpen i w)) := PSs.imp h fun E σ H h => by
  obtain ⟨H0, env, c, D, R, ⟨he, q⟩, k1, k2, k3, k4⟩ := h
  have hl := R.len
  obtain ⟨hi, _⟩ := List.getElem?_eq_some_iff.mp he
  have h2 : σ[i]? = some σ[i] := List.getElem?_eq_getElem (by omega)
  obtain ⟨g, e2, eg⟩ := R.at_ i _ _ h2 he
  obtain ⟨fg, zg, ca, cs, a, r, hg, hc, hi', h0, h1, hr⟩ := R.core.gau g eg
  refine ⟨H0, _, c + 1, D, ⟨⟨R.core.sub, R.core.frm, fun g' e' => ?_, R.core.grd, R.core.tbs, R.core.tb0⟩, by rw [List.length_set]; exact R.len, fun j o sl h3 h4 => ?_, fun j k b ds es n h3 h4 h5 h6 => ?_⟩, q cs a r hi' h0 h1 hr, k1, k2, k3, k4⟩
  · obtain ⟨x, y, G⟩ := R.core.gau g' e'
    exact ⟨x, y, G.mono (Same.refl _) rfl (Nat.le_succ _)⟩
  · rcases set_get h4 with ⟨e3, e4⟩ | ⟨e3, e4⟩
    · subst e3 e4
      rw [h2, e2] at h3
      cases h3
      exact ⟨g, ca, rfl, eg, hg, hc⟩
    · exact R.at_ j o sl h3 e4
  · rcases set_get h4 with ⟨e3, e4⟩ | ⟨e3, e4⟩
    · cases e4
    · rcases set_get h6 with ⟨e5, e6⟩ | ⟨e5, e6⟩
      · cases e6
      · exact R.dis j k b ds es n h3 e4 h5 e6
theorem dGx (i : Nat) {x : Str} {k : Int} {p1 p2 : Pos} {j : Nat} (hN : X.N[i]? = some x := by rfl) (hv : Vis X.env.scope x := by first | exact Or.inl rfl | exact Or.inr (Or.inl rfl) | exact Or.inr (Or.inr rfl)) (hd : (x == ("__debug__" : Str)) = false := by decide)
    (hcd : (x == ("__classdict__" : Str)) = false := by decide) : PE X (.Subscript (.Name x p1) (.Constant (.int k) j p2) pos) (tG X.K F γ (wGx i k)) := PE.imp (pe_ix ix_list (pe_var hN hv hd hcd) pe_int (fun _ _ => rfl)) fun σ H Q h => by
  obtain ⟨H0, env, c, P, R, ⟨hk, cs, a, r, e, q⟩, kk⟩ := h
  obtain ⟨g, ca, s1, eg, hg, hc⟩ := R.gx_at e
  rcases hk with rfl | rfl | rfl
  · exact ⟨.ref g, s1, g, _, 0, .ref ca, rfl, rfl, SqL.of hg, rfl, kk _ _ _ _ _ q (Same.refl _) R hc⟩
  · exact ⟨.ref g, s1, g, _, 1, .int a, rfl, rfl, SqL.of hg, rfl, kk _ _ _ _ _ q (Same.refl _) R (.int _)⟩
  · exact ⟨.ref g, s1, g, _, 2, .int r, rfl, rfl, SqL.of hg, rfl, kk _ _ _ _ _ q (Same.refl _) R (.int _)⟩
theorem Rep.writeGx {K : PySem.W.Frag} {H0 H : Hp} {σ : St} {env : List Sl} {c c' : Nat} (R : Rep K F γ H0 H σ env c) {i : Nat} {cs : List D} {a r a' r' : Int} (e : env[i]? = some (.gx cs a r)) (u : ∀ (j : Nat) (cs' : List D) (a2 r2 : Int), env[j]? = some (.gx cs' a2 r2) → j = i) (hc : c ≤ c') (ha : 0 ≤ a' ∧ a' ≤ (c' : Int)) (hr : 0 ≤ r') :
    ∀ g ca, σ[i]? = some (some (.ref g)) → H g = some (.lst [.ref ca, .int a, .int r]) → Rep K F γ H0 (upd H g (.lst [.ref ca, .int a', .int r'])) σ (env.set i (.gx cs a' r')) c' := by
  intro g ca hs hg
  obtain ⟨g2, ca2, s2, eg, hg2, hca⟩ := R.gx_at e
  rw [hs] at s2
  cases s2
  rw [hg] at hg2
  cases hg2
  obtain ⟨fg, zg, _, cs0, _, _, hg3, hc0, hi0, _, _, _⟩ := R.core.gau g eg
  rw [hg] at hg3
  cases hg3
  refine ⟨⟨fun b o q => ?_, fun b o q => ?_, fun g' q => ?_, R.core.grd, Tabs.upd R.core.tbs fun u eu => by rw [hg] at eu; cases eu; exact noTab_lst, R.core.tb0⟩, by rw [List.length_set]; exact R.len, fun j o sl h3 h4 => ?_, fun j k b ds es n h3 h4 h5 h6 => ?_⟩
  · rw [upd_ne (ne_of_none q zg)]; exact R.core.sub _ _ q
  · rw [upd_ne (ne_of_none q fg)]; exact R.core.frm _ _ q
  · rw [eg] at q
    cases q
    exact ⟨fg, zg, ca, cs0, a', r', upd_same, hc0, hi0, ha.1, ha.2, hr⟩
  · rcases set_get h4 with ⟨e3, e4⟩ | ⟨e3, e4⟩
    · subst e3 e4
      rw [hs] at h3
      cases h3
      exact ⟨g, ca, rfl, eg, upd_same, hca⟩
    · have q := R.at_ j o sl h3 e4
      cases sl with
      | no => trivial
      | val d => exact q
      | ow ds =>
        obtain ⟨b, vs, e5, g5, f5, z5, h5, l5⟩ := q
        exact ⟨b, vs, e5, g5, f5, z5, by rw [upd_ne (fun z => g5 (by rw [z]; exact eg))]; exact h5, l5⟩
      | gau => exact q
      | lam => exact q
      | scr => first | exact q | exact ScrOk.mono q (by assumption) | exact ScrOk.mono q (Same.new (by assumption)) | exact ScrOk.mono q (Same.new O.z)
      | gx cs' a2 r2 => exact absurd (u j cs' a2 r2 e4).symm e3
  · rcases set_get h4 with ⟨e3, e4⟩ | ⟨e3, e4⟩
    · cases e4
    · rcases set_get h6 with ⟨e5, e6⟩ | ⟨e5, e6⟩
      · cases e6
      · exact R.dis j k b ds es n h3 e4 h5 e6
def oneGx (env : List Sl) (i : Nat) : Bool := noGx (env.set i .no)
theorem oneGx_of {env : List Sl} {i : Nat} (h : oneGx env i = true) : ∀ (j : Nat) (cs' : List D) (a2 r2 : Int), env[j]? = some (.gx cs' a2 r2) → j = i := fun j cs' a2 r2 e => by
  by_cases hj : i = j
  · exact hj.symm
  · have e2 : (env.set i .no)[j]? = some (.gx cs' a2 r2) := by rw [List.getElem?_set_ne hj]; exact e
    exact Bool.noConfusion (noGx_mem h _ (List.mem_of_getElem? e2))
theorem dsGx (i : Nat) {x : Str} {k : Int} {p1 p2 p3 : Pos} {j : Nat} {e : Expr} {we : WE} (he : PE X e (tG X.K F γ we)) (hN : X.N[i]? = some x := by rfl) (hv : Vis X.env.scope x := by first | exact Or.inl rfl | exact Or.inr (Or.inl rfl) | exact Or.inr (Or.inr rfl)) (hd : (x == ("__debug__" : Str)) = false := by decide)
    (hcd : (x == ("__classdict__" : Str)) = false := by decide) (hs : swapsWithSole [.Subscript (.Name x p1) (.Constant (.int k) j p2) p3] e pos.line X.env = pure false := by rfl) (hw : swappedStores [.Subscript (.Name x p1) (.Constant (.int k) j p2) p3] e X.env = pure none := by rfl)
    (h1 : (assignEach [.Subscript (.Name x p1) (.Constant (.int k) j p2) p3] X.env).map (·.2) = [assign (.Subscript (.Name x p1) (.Constant (.int k) j p2) p3) X.env] := by rfl) (ha : ∀ v, assign (.Subscript (.Name x p1) (.Constant (.int k) j p2) p3) X.env v = (do
      let ov ← holding [v] (eval (.Name x p1) X.env)
      let iv ← holding [v, ov] (eval (.Constant (.int k) j p2) X.env)
      standAt p3
      holding [v, ov, iv] (setItem ov iv v)
      release [v, ov, iv] []) := by intro _; rfl) :
    PS X (.Assign [.Subscript (.Name x p1) (.Constant (.int k) j p2) p3] e pos) (tS X.K F γ (fun E env c => oneGx env i = true ∧ wGxSet i k we E env c)) := PS.imp (ps_asg he (pg_sub (pe_var hN hv hd hcd) pe_int set_list ha) hs hw h1) fun E σ H h => by
  obtain ⟨H0, env, c, D, R, ⟨o1, q⟩, k1, k2, k3, k4⟩ := h
  refine ⟨H0, env, c, _, R, q, fun d c1 v H1 H01 q1 s1 R1 h1 => ?_⟩
  obtain ⟨cs, a, r, n, e1, rfl, hn, q1⟩ := q1
  cases h1
  obtain ⟨g, ca, s2, eg, hg, hca⟩ := R1.gx_at e1
  obtain ⟨fg, zg, _, cs0, _, _, hg3, hc0, hi0, b1, b2, b3⟩ := R1.core.gau g eg
  rw [hg] at hg3
  cases hg3
  refine ⟨.ref g, s2, ?_⟩
  rcases q1 with ⟨rfl, q1⟩ | ⟨rfl, q1⟩
  · refine ⟨g, _, 1, 1, rfl, rfl, hg, rfl, ?_⟩
    exact k1 _ _ _ _ _ q1 s1 (R1.writeGx e1 (oneGx_of o1) (Nat.le_max_left _ _) ⟨hn, by omega⟩ b3 g ca s2 hg)
  · refine ⟨g, _, 2, 2, rfl, rfl, hg, rfl, ?_⟩
    exact k1 _ _ _ _ _ q1 s1 (R1.writeGx e1 (oneGx_of o1) (Nat.le_refl _) ⟨b1, b2⟩ hn g ca s2 hg)
/-! ### dicts -/
theorem dDict0 : PE X (.Dict [] [] pos) (tG X.K F γ (wC (.dic [] []))) := PE.imp pe_dnewK fun σ H Q h => by
  obtain ⟨H0, env, c, P, R, q, k⟩ := h
  intro p hp
  exact k _ _ _ _ _ q (Same.new (R.core.sub.free hp)) (R.alloc hp) (.dic (upd_same (o := .dK [])) rfl .nil)
/-- a key -/
def D.key : D → Option Key | .int i => some (.inl i) | .str x => some (.inr x) | _ => none
def wDict1 (wk wv : WE) : WE := fun env c P => wk env c fun d c1 => wv env c1 fun e c2 => ∃ k, d.key = some k ∧ P (.dic [k] [e]) c2
theorem key_of {K : PySem.W.Frag} {H : Hp} {v : V} {d : D} {k : Key} (h : Has K H v d) (e : d.key = some k) : v = kV k := by
  cases h <;> cases e <;> rfl
theorem dDict1 {ke ve : Expr} {wk wv : WE} (hk : ∀ F', PE X ke (tG X.K F' γ wk)) (hv : ∀ F', PE X ve (tG X.K F' γ wv)) : PE X (.Dict [some ke] [ve] pos) (tG X.K F γ (wDict1 wk wv)) := by
  have hk' : PE X ke (exE X.K γ wk) := ⟨fun pins s σ H Q I ⟨F', h⟩ => (hk F').run pins s σ H Q I h⟩
  have hv' : PE X ve (exE X.K γ wv) := ⟨fun pins s σ H Q I ⟨F', h⟩ => (hv F').run pins s σ H Q I h⟩
  refine PE.imp (pe_disp (pps_cons hk' hv' pps_nil) rfl rfl (by simp) (by show 1 ≤ 15; decide)) fun σ H Q h => ?_
  obtain ⟨H0, env, c, P, R, q, k⟩ := h
  intro p hp
  obtain ⟨f1, f2, f3⟩ := R.core.free hp
  have ap : ∀ (i : Nat) (es : OT), σ[i]? = some (some (.ref p)) → env[i]? = some (.ow es) → False := fun i es h1 h2 => by
    obtain ⟨a, us, e, _, _, _, ha, _⟩ := R.at_ i _ _ h1 h2
    cases e
    rw [hp] at ha; cases ha
  have R1 := (R.allocOwn (o := .dK []) hp).intoFrame (ho := .dK []) f3 f1 upd_same noTab_dK ap
  refine ⟨_, H0, env, c, _, R1, q, fun d c1 v H1 H01 q1 s1 R2 h1 => ?_⟩
  refine ⟨_, H01, env, c1, _, R2, q1, fun e c2 u H2 H02 ⟨ky, ek, q2⟩ s2 R3 h2 => ?_⟩
  obtain ⟨hp2, z2⟩ := R3.core.frm p _ upd_same
  refine ⟨hp2, [(ky, u)], by rw [key_of h1 ek]; rfl, by show 1 ≤ 15; decide, ?_⟩
  have R4 := R3.outFrame f2
  have hm : mergeK [] [(ky, u)] = [(ky, u)] := rfl
  rw [hm]
  -- the dict is frozen
  have s3 : Same H02 (upd H02 p (.dK [(ky, u)])) := Same.new z2
  have R5 : Rep X.K F γ (upd H02 p (.dK [(ky, u)])) (upd H2 p (.dK [(ky, u)])) σ env c2 := by
    refine ⟨⟨Same.upd R4.core.sub, fun b o e => ?_, fun g e => ?_, R4.core.grd.trans s3, Tabs.upd R4.core.tbs fun u eu => by rw [hp2] at eu; cases eu; exact noTab_dK, tb0_upd R4.core.tb0 (Tabs.ne R4.core.tbs hp2 noTab_dK)⟩, R4.len, fun i o sl h3 h4 => ?_, R4.dis⟩
    · have nb : b ≠ p := fun z => by rw [z, f2] at e; cases e
      rw [upd_ne nb, upd_ne nb]; exact R4.core.frm _ _ e
    · have nb : g ≠ p := fun z => f3 (by rw [← z]; exact e)
      obtain ⟨a, b, G⟩ := R4.core.gau g e
      exact ⟨a, by rw [upd_ne nb]; exact b, G.mono s3 (upd_ne nb) (Nat.le_refl _)⟩
    · have q := R4.at_ i o sl h3 h4
      cases sl with
      | no => trivial
      | val d => obtain ⟨v, e, q⟩ := q; exact ⟨v, e, q.mono s3⟩
      | ow ds =>
        obtain ⟨a, vs, e, g, fa, h0, ha, q⟩ := q
        have na : a ≠ p := fun z => ap i ds (by rw [h3, e, z]) h4
        exact ⟨a, vs, e, g, fa, by rw [upd_ne na]; exact h0, by rw [upd_ne na]; exact ha, q.mono s3⟩
      | gau => exact q
      | lam => exact q
      | scr => first | exact q | exact ScrOk.mono q (by assumption) | exact ScrOk.mono q (Same.new (by assumption)) | exact ScrOk.mono q (Same.new O.z)
      | gx cs a r =>
        obtain ⟨g, ca, e, eg, hg, q⟩ := q
        have nb : g ≠ p := fun z => f3 (by rw [← z]; exact eg)
        exact ⟨g, ca, e, eg, by rw [upd_ne nb]; exact hg, q.mono s3⟩
  exact k _ _ _ _ _ q2 ((s1.trans s2).trans s3) R5 (.dic upd_same rfl (.cons (h2.mono s3) .nil))
end
end L2.DL

set_option Elab.async false
set_option linter.all false
set_option autoImplicit false
set_option maxRecDepth 100000
namespace L2.DL
open PySem PySem.Spec PyProof.Rows
/-! ### the law's def: it makes its gauge, then goes on by it -/
def lessG (H : Hp) (g : Addr) : Hp := fun b => if b = g then none else H b
/-- without the gauge, without the tables -/
def lessT (T : List (Addr × Str)) (H : Hp) (g : Addr) : Hp := fun b => if b = g ∨ b ∈ T.map (·.1) then none else H b
theorem lessT_inv {T : List (Addr × Str)} {H : Hp} {g b : Addr} {o : HO} (h : lessT T H g b = some o) : H b = some o := by
  unfold lessT at h
  split at h
  · cases h
  · exact h
theorem has_ints {K : PySem.W.Frag} {H H' : Hp} : ∀ {vs : List V} {ds : List D}, HasL K H vs ds → (∀ d ∈ ds, ∃ n, d = D.int n) → HasL K H' vs ds
  | _, _, .nil, _ => .nil
  | _, _, .cons h t, a => by
    obtain ⟨n, e⟩ := a _ List.mem_cons_self
    subst e
    cases h
    exact .cons (.int n) (has_ints t fun d hd => a d (List.mem_cons_of_mem _ hd))
theorem Gau.lessT {K : PySem.W.Frag} {T : List (Addr × Str)} {H : Hp} {g : Addr} {c : Nat} (t : LamX.Tabs T H) (G : Gau K (lessG H g) H g c) : Gau K (lessT T H g) H g c := by
  obtain ⟨ca, cs, i, r, h1, h2, h3, h4, h5, h6⟩ := G
  refine ⟨ca, cs, i, r, h1, ?_, h3, h4, h5, h6⟩
  cases h2 with
  | lst a1 a2 =>
    refine .lst ?_ (has_ints a2 h3)
    unfold lessG at a1
    split at a1
    · cases a1
    · rename_i n
      unfold DL.lessT
      rw [if_neg]
      · exact a1
      · rintro (z | z)
        · exact n z
        · obtain ⟨p, hp, e⟩ := List.mem_map.mp z
          exact Tabs.ne t a1 noTab_lst p hp e
/-- what the maker of a gauge promises -/
def spMk (K : PySem.W.Frag) : Sp := fun vs H Q _ => ∃ (a : Addr) (ns : List Int), vs = [.ref a] ∧ SqL K H a (ns.map V.int) ∧ ns.length ≤ 63 ∧
  ∀ g H', Same H H' → H g = none → Gau K (lessG H' g) H' g 0 → Q (.ref g) H'
def spLaw (K : PySem.W.Frag) (T : List (Addr × Str)) : Sp := fun vs H Q _ => ∃ (a : Addr) (ns : List Int), vs = [.ref a] ∧ SqL K H a (ns.map V.int) ∧ ns.length ≤ 63 ∧ LamX.Tabs T H ∧ ∀ H', Q (.bl true) H'
def exS (K : PySem.W.Frag) (TB : List (Addr × Str)) (w : WS) : TS := fun E σ H => ∃ F g gr, tS K F ⟨some g, gr, TB, none⟩ w E σ H
theorem exS_of {X : Cx} {TB : List (Addr × Str)} {sts : List Stmt} {w : WS} (h : ∀ F g gr, PSs X sts (tS X.K F ⟨some g, gr, TB, none⟩ w)) : PSs X sts (exS X.K TB w) := ⟨fun pins s σ H D I ⟨F, g, gr, q⟩ => (h F g gr).run pins s σ H D I q⟩
/-- the first statement, and the rest -/
theorem law_first {X : Cx} {TB : List (Addr × Str)} {i : Nat} {f : Addr} {fd : FuncData} {k : Nat} {x y ps0 : Str} {sts : List Stmt} {p1 p2 p3 p4 pos : Pos} {w : WS} (G : FnG X.prog X.w X.K X.mg X.base CX0 k f fd [ps0] (spMk X.K)) (hr : Room k X.A) (hgd : X.A.guards = some []) (hm : X.mg x = some (.ref f)) (hk : PySem.W.keepIn X.K (.ref f) = true) (hb : Binds X.K fd [ps0] [])
    {sc : Str} (hs : PE X (.Name sc p3) (tVar 0)) (hN : X.N.Nodup) (hi : X.N[i]? = some y) (hx : Loc X.env.scope y) (hg : Gl X x) (hdb : (x == ("__debug__" : Str)) = false) (he : starEach [.Name sc p3] X.env = (false, eval (.Name sc p3) X.env) :: starEach [] X.env) (hpl : (backTo p4 (starEach [] X.env)).any (·.1) = false)
    (hsw : swapsWith (.Call (.Name x p2) [.Name sc p3] [] p4) (some (.Name y p1)) pos.line X.env = pure false) (hf : X.fn y = true ∨ X.env.scope.names.lookup y = some .local) (hrest : ∀ F g gr, PSs X sts (tS X.K F ⟨some g, gr, TB, none⟩ w)) :
    PSs X (.Assign [.Name y p1] (.Call (.Name x p2) [.Name sc p3] [] p4) pos :: sts) (tSeq (tAsg (tCall (spMk X.K) [] E0 (tCons (tVar 0) tNil)) (gName i)) (exS X.K TB w)) :=
  pss_cons (ps_set hN hi hx (pe_callG G hr hgd hm hk hb .nil pass0 (pa_cons hs pa_nil he) hg hdb he hpl) hsw hf) (exS_of hrest)
theorem law_read {K : PySem.W.Frag} {T : List (Addr × Str)} {i m : Nat} {w : WS} {a : Addr} {ns : List Int} {N : List Str} {H : Hp} {Q : VK} (hS : SqL K H a (ns.map V.int)) (hl : ns.length ≤ 63) (hT : LamX.Tabs T H) (hN : N.length = m) (hi : 0 < i ∧ i < m) (hQ : ∀ H', Q (.bl true) H')
    (hw : w ⟨fun _ _ => False, fun d _ => d = .bl true, fun _ _ => False, fun _ _ => False⟩ ((List.replicate m .no).set i .gau) 0) :
    tSeq (tAsg (tCall (spMk K) [] E0 (tCons (tVar 0) tNil)) (gName i)) (exS K T w) { nx := fun _ H' => Q .non H', rt := Q } (start N [.ref a]) H := by
  have e0 : (start N [V.ref a])[0]? = some (some (V.ref a)) := by simp [start]
  refine ⟨.ref a, e0, a, ns, rfl, hS, hl, fun g H' s0 hg G => ?_⟩
  have hT' : LamX.Tabs T H' := hT.ext fun b o e => s0 b o e
  refine ⟨fun _ => none, g, lessT T H' g, lessT T H' g, _, 0, _, ⟨⟨fun b o e => lessT_inv e, fun b o e => (nomatch (show (none : Option HO) = some o from e)), fun g' e => ?_, Same.refl _, hT', fun p hp => ⟨by unfold lessT; rw [if_pos (.inr (List.mem_map.mpr ⟨p, hp, rfl⟩))], rfl⟩⟩, (by simp [start, hN]; omega), fun j o sl h1 h2 => ?_, fun j k b ds es n h1 h2 h3 h4 => ?_⟩, hw, ?_, ?_, ?_, ?_⟩
  · cases e
    exact ⟨rfl, by unfold lessT; rw [if_pos (.inl rfl)], G.lessT hT'⟩
  · rcases set_get h2 with ⟨e3, e4⟩ | ⟨e3, e4⟩
    · subst e4
      rcases set_get h1 with ⟨e5, e6⟩ | ⟨e5, e6⟩
      · subst e6; exact ⟨g, rfl, rfl⟩
      · exact absurd e3 e5
    · rw [List.getElem?_replicate] at e4
      split at e4
      · cases e4; trivial
      · cases e4
  · rcases set_get h2 with ⟨e3, e4⟩ | ⟨e3, e4⟩
    · cases e4
    · rw [List.getElem?_replicate] at e4
      split at e4 <;> cases e4
  · exact fun _ _ _ _ _ q => False.elim q
  · intro d c' v H2 H0' q _ _ hd
    subst q
    cases hd
    exact hQ H2
  · exact fun _ _ _ _ _ q => False.elim q
  · exact fun _ _ _ _ _ q => False.elim q

/-! ### the end: a law's promise, kept where no repr is under way -/
theorem lawG_call {P : Program} {w : World} {K : PySem.W.Frag} {mg mb : Str → Option Value} {k : Nat} {fa a : Addr} {fd : FuncData} {x : Str} {s₁ : Shared} {vs : List Value} {ns : List Int}
    (KX : K.In s₁.heap) (hns : s₁.heap.Ns mainGlobals mg) (hb : s₁.heap.Ns builtinsNs mb) (hbb : ∀ x : Str, x ≠ "__name__" → mb x = bootBuiltins x) (hlim : s₁.heap.NoLimit) (hg : s₁.gens = #[])
    (ha : s₁.heap.get? a = some { cls := .type "list", data := .seq vs.toArray }) (hi : IntsAre vs ns) (hl : ns.length ≤ 63) (hr : Room k callerA)
    (G : ∀ base : Heap, K.In base → base.Ns mainGlobals mg → FnG P w K mg base CX0 k fa fd [x] (spLaw K [])) (hbind : ∀ (s : Shared) (u : Value), BindsTo s fd ⟨[u], []⟩ [(x, u)]) :
    codeAny (model P w) callerA (.call (.ref fa) ⟨[.ref a], []⟩) (fun r s' => r = .ok (.ret (.bool true)) ∧ OldK s₁.heap s'.heap ∧ s'.os = s₁.os ∧ AllBare s'.gens) s₁ := by
  have rv := vals_ints hi
  have lenV := hi.length
  have hl2 : ns.length ≤ sizeLine := Nat.le_trans hl (by decide)
  have core : ∀ H : Hp, Only H → SqL K H a (ns.map V.int) → HOk P w H s₁.heap → (∀ b, H b ≠ none → b = a) → (H a ≠ none → K.lookup a = none) →
      codeAny (model P w) callerA (.call (.ref fa) ⟨[.ref a], []⟩) (fun r s' => r = .ok (.ret (.bool true)) ∧ OldK s₁.heap s'.heap ∧ s'.os = s₁.os ∧ AllBare s'.gens) s₁ := by
    intro H hO hS ok hA hK
    have at_a : ∀ {b : Addr}, H b ≠ none → b = a ∧ K.lookup b = none := fun {b} n => by
      have e := hA b n
      subst e
      exact ⟨rfl, hK n⟩
    have keepK : ∀ b o, K.lookup b = some o → (hidT s₁.heap H).get? b = some o := fun b o e => by
      refine hidT_get (KX b o e) ?_
      cases q : H b with
      | none => rfl
      | some u => have z := (at_a (b := b) (by rw [q]; exact Option.some_ne_none u)).2; rw [z] at e; cases e
    have keepNs : ∀ {b : Addr} {m : Str → Option Value}, s₁.heap.Ns b m → (hidT s₁.heap H).Ns b m := by
      rintro b m ⟨o, es, ep, e, d, r⟩
      refine ⟨o, es, ep, hidT_get e ?_, d, r⟩
      cases q : H b with
      | none => rfl
      | some u =>
        have z := (at_a (b := b) (by rw [q]; exact Option.some_ne_none u)).1
        rw [z, ha] at e
        cases e
        exact nomatch d
    obtain ⟨mc, l1, l2⟩ := hlim
    have hM : Mod K mg (hidT s₁.heap H) := ⟨keepK, keepNs hns, ⟨mb, keepNs hb, hbb⟩, ⟨mc, keepNs l1, l2⟩⟩
    have e0 : Env0 P w K mg (hidT s₁.heap H) callerA [] s₁ H :=
      { frames := rfl, mod := hM, bs := fun b o e => of_hidT e, bsz := Nat.le_of_eq (hidT_size _ _), funs := trivial, frf := fun b hb => (nomatch hb), hok := ok, bare := .of_eq hg }
    have run := (G _ keepK (keepNs hns)).run callerA [] s₁ H ⟨[.ref a], []⟩ [.ref a] [.ref a] (fun v _ => v = .bl true) (fun _ _ _ => False) hr rfl e0 (hbind s₁ (.ref a)) (.cons rfl .nil) ⟨a, ns, rfl, hS, hl, (fun _ h => nomatch h), fun _ => rfl⟩
    refine codeAny_mono run fun r s' h => ?_
    match r, h with
    | .error e, h => exact (show False from h).elim
    | .ok .next, h => exact (show False from h).elim
    | .ok .brk, h => exact (show False from h).elim
    | .ok .cont, h => exact (show False from h).elim
    | .ok (.ret u), ⟨v, H', hos, hbare, un, ok', r', q⟩ =>
      have q' : v = .bl true := q
      subst q'
      have eu : u = Value.bool true := r'
      subst eu
      refine ⟨rfl, OldK.of_keep (fun b o e => ?_), hos, hbare⟩
      cases q : H b with
      | none => exact un.keep b o e q (fun z => nomatch z) (fun z => nomatch z)
      | some u =>
        rcases hO b with z | ⟨ob, xs, z⟩
        · rw [q] at z; cases z
        · obtain ⟨e1, _⟩ := ok b _ z
          obtain ⟨e2, _⟩ := ok' b _ (un.frzs b ob _ z)
          rw [e] at e1
          cases e1
          exact e2
  cases hk : K.lookup a with
  | some o =>
    have e := KX a o hk
    rw [ha] at e
    cases e
    have hS : SqL K (fun _ => none) a (ns.map V.int) := .inr ⟨_, vs.toArray, _, hk, rfl, rfl, rfl, by rw [List.size_toArray, lenV]; exact hl2, by simpa using rv⟩
    exact core (fun _ => none) (fun _ => .inl rfl) hS (fun b u z => nomatch (show (none : Option HO) = some u from z)) (fun b z => absurd rfl z) (fun z => absurd rfl z)
  | none =>
    have hat : ∀ b, b ≠ a → (if b = a then some (HO.frz { cls := .type "list", data := .seq vs.toArray } (.lst (ns.map V.int))) else none) = none := fun b n => if_neg n
    refine core (fun b => if b = a then some (.frz { cls := .type "list", data := .seq vs.toArray } (.lst (ns.map V.int))) else none) (fun b => ?_) (.inl (.inr ⟨_, if_pos rfl⟩)) (fun b u z => ?_) (fun b z => ?_) (fun _ => hk)
    · by_cases n : b = a
      · exact .inr ⟨_, _, if_pos n⟩
      · exact .inl (hat b n)
    · by_cases n : b = a
      · have z' := (if_pos n).symm.trans z
        cases z'
        subst n
        exact ⟨ha, by rw [List.length_map]; exact hl2, vs, _, rv, ha⟩
      · have z' := (hat b n).symm.trans z
        cases z'
    · by_cases n : b = a
      · exact n
      · exact absurd (hat b n) z
theorem walkG {l : PySem.W.OpenLaw} {k : Nat} {q : Program} {loose : List Str} {XP : (Str → Option Value) → Heap → Prop} {YP : World → Heap → Prop} {d : DefRec} {K : Params → PySem.W.Frag} {x : Str}
    (hn : l.most = some 63) (hdf : d.params.defaults = []) (hr : Room k callerA) (hY : ∀ (w : World) (h : Heap), YP w h → (K w.params).In h)
    (F : ∀ (w : World) (mg : Str → Option Value) (fa : Addr) (h : Heap), (K w.params).In h → h.Ns mainGlobals mg → mg d.name = some (.ref fa) →
      ∃ fd : FuncData, (∀ (s : Shared) (u : Value), BindsTo s fd ⟨[u], []⟩ [(x, u)]) ∧ ∀ base : Heap, (K w.params).In base → base.Ns mainGlobals mg → FnG l.prog w (K w.params) mg base CX0 k fa fd [x] (spLaw (K w.params) [])) :
    PySem.W.WalkO q loose XP YP l.row.toRowW d [] (fun f vs => PySem.call f vs) := by
  refine Att.attach_call hn hdf (fun w s₀ s₁ mg mb fa o pm cd doc a vs ns G Y ho hd hcd hmg hobj hints hlen hg => ?_)
  have KX := hY w _ Y
  obtain ⟨fd, hb, hF⟩ := F w mg fa _ KX G.T.g hmg
  exact lawG_call KX G.T.g G.T.b G.T.builtins G.T.nolimit hg hobj hints hlen hr hF hb
end L2.DL

set_option Elab.async false
set_option linter.all false
set_option autoImplicit false
set_option maxRecDepth 100000
namespace L2.DL
open PySem PySem.Spec PyProof.Rows
/-! ### the maker of a gauge -/
def rInt1 : List V → Hp → VK → Prop := fun xs H Q => (∃ i, xs = [.int i] ∧ Q (.int i) H) ∨ ∃ k, xs = [.bl k] ∧ Q (.int (if k then 1 else 0)) H
def tMk (K : PySem.W.Frag) (n : Int) : TS :=
  tRet (tLst (tCons (tLc (iList K (tSl (rSlL K) (tVar 0) tNoPart (tPart (tC (.int n))))) (gName 1) tYes (tCB rInt1 (tCons (tVar 1) tNil)) [1]) (tCons (tC (.int 0)) (tCons (tC (.int 0)) tNil))))
theorem cut_ints {ns : List Int} {lo hi : Option Int} : ∃ ms : List Int, cutV (ns.map V.int) lo hi = ms.map V.int ∧ ms.length ≤ ns.length := by
  refine ⟨(ns.drop (HT.sIx (ns.map V.int).length 0 lo)).take (HT.sIx (ns.map V.int).length (ns.map V.int).length hi - HT.sIx (ns.map V.int).length 0 lo), ?_, ?_⟩
  · unfold cutV
    rw [List.map_take, List.map_drop]
  · rw [List.length_take, List.length_drop]
    omega
theorem ints_has {K : PySem.W.Frag} {H : Hp} : ∀ ns : List Int, HasL K H (ns.map V.int) (ns.map D.int)
  | [] => .nil
  | n :: ns => .cons (.int n) (ints_has ns)
theorem mk_read {K : PySem.W.Frag} {n : Int} {N : List Str} (hN : N.length = 2) {vs : List V} {H : Hp} {Q : VK} {E : XK} (h : spMk K vs H Q E) : tMk K n { nx := fun _ H' => Q .non H', rt := Q } (start N vs) H := by
  obtain ⟨a, ns, rfl, hS, hl, hQ⟩ := h
  have e0 : start N [V.ref a] = [some (.ref a), none] := by simp [start, hN]
  rw [e0]
  have hlen : ns.length ≤ sizeLine := by
    exact Nat.le_trans hl (by decide)
  refine ⟨.ref a, rfl, _, rfl, a, _, rfl, hS, fun p hp => ?_⟩
  obtain ⟨ms, em, hm⟩ := cut_ints (ns := ns) (lo := none) (hi := some n)
  rw [em]
  refine ⟨p, rfl, ⟨_, SqL.of upd_same⟩, fun A hA => ?_⟩
  have npA : p ≠ A := ne_of_none upd_same hA
  refine lc_list (K := K) (a := p) (xs := ms.map V.int) (fun i H2 => H2 = upd (upd H p (.lst (ms.map V.int))) A (.lst ((ms.take i).map V.int))) (by simp) (fun i H2 _ e => ?_) (fun i x H2 hx e => ?_) (fun H2 e => ?_)
  · subst e
    exact SqL.of (by rw [upd_ne npA]; exact upd_same)
  · subst e
    refine ⟨rfl, ?_⟩
    rw [List.getElem?_map] at hx
    cases q : ms[i]? with
    | none => rw [q] at hx; cases hx
    | some m =>
      rw [q] at hx
      cases hx
      obtain ⟨hi, ei⟩ := List.getElem?_eq_some_iff.mp q
      refine ⟨.int m, rfl, .inl ⟨m, rfl, (ms.take i).map V.int, upd_same, ?_, ?_⟩⟩
      · rw [List.length_map, List.length_take]
        omega
      · rw [upd_upd, List.take_add_one, q, Option.toList_some, List.map_append]
        rfl
  · subst e
    rw [List.length_map, List.take_length]
    refine ⟨by show 3 ≤ sizeLine; decide, fun g hg => ?_⟩
    have hg1 : H g = none := by
      have z := Same.free (Same.new (o := .lst (ms.map V.int)) hA) hg
      exact Same.free (Same.new hp) z
    have ngA : A ≠ g := ne_of_none upd_same hg
    refine hQ g _ ((Same.new hp).trans ((Same.new hA).trans (Same.new hg))) hg1 ⟨A, ms.map D.int, 0, 0, upd_same, .lst ?_ (ints_has ms), fun d hd => ?_, Int.le_refl _, Int.le_refl _, Int.le_refl _⟩
    · unfold lessG
      rw [if_neg ngA, upd_ne ngA, upd_same]
    · obtain ⟨k, _, rfl⟩ := List.mem_map.mp hd
      exact ⟨k, rfl⟩
theorem spMk.len {K : PySem.W.Frag} {vs : List V} {H : Hp} {Q : VK} {E : XK} (h : spMk K vs H Q E) : vs.length = 1 := by
  obtain ⟨a, ns, rfl, _⟩ := h
  rfl
section
variable {P : Program} {w : World} {K : PySem.W.Frag} {mg : Str → Option Value} {base : Heap} {x qual : Str} {st : Stmt} {f : Addr} {fd : FuncData} {N : List Str} {ps0 : Str} {k : Nat} {TB : List (Addr × Str)}
theorem dFnMk {n : Int} (Fn : Fun K x qual st f fd) (S : FnScope N [ps0] (defScope st)) (hN : N.length = 2)
    (hb : ∀ (cdv : Value) (A : Around) (outer : List Env) (s : Shared) (H : Hp) (E : XK), PSs (cxOf CX0 P w K mg base N qual (defScope st) f cdv A outer s H E).nox (defBody st) (tMk K n)) :
    FnG P w K mg base CX0 (k + 1) f fd [ps0] (spMk K) := by
  obtain ⟨oc, od, kV, doc, pm, an, cdv, ct, osl, rfl, lk, hcd⟩ := Fn.ex
  exact fnG_of lk hcd S (fun vs H Q E h => h.len) fun A outer s H vs Q E hr hgd h => ⟨_, (hb cdv A outer s H E).nox, mk_read hN h⟩
/-- the law itself -/
theorem dFnLaw {i m : Nat} {wl : WS} (Fn : Fun K x qual st f fd) (S : FnScope N [ps0] (defScope st)) (hN : N.length = m) (hi : 0 < i ∧ i < m)
    (hw : wl ⟨fun _ _ => False, fun d _ => d = .bl true, fun _ _ => False, fun _ _ => False⟩ ((List.replicate m .no).set i .gau) 0)
    (hb : ∀ (cdv : Value) (A : Around) (outer : List Env) (s : Shared) (H : Hp) (E : XK), Room k (A.deeper (envOfC qual (defScope st) s.heap.objs.size f cdv)) → (A.deeper (envOfC qual (defScope st) s.heap.objs.size f cdv)).guards = some [] →
      PSs (cxOf CX0 P w K mg base N qual (defScope st) f cdv A outer s H E).nox (defBody st) (tSeq (tAsg (tCall (spMk K) [] E0 (tCons (tVar 0) tNil)) (gName i)) (exS K TB wl))) :
    FnG P w K mg base CX0 (k + 1) f fd [ps0] (spLaw K TB) := by
  obtain ⟨oc, od, kV, doc, pm, an, cdv, ct, osl, rfl, lk, hcd⟩ := Fn.ex
  refine fnG_of lk hcd S (fun vs H Q E ⟨a, ns, e, _⟩ => by rw [e]; rfl) fun A outer s H vs Q E hr hgd h => ?_
  obtain ⟨a, ns, rfl, hS, hl, hT, hQ⟩ := h
  exact ⟨_, (hb cdv A outer s H E hr hgd).nox, law_read hS hl hT hN hi hQ hw⟩
end
end L2.DL

set_option Elab.async false
set_option linter.all false
set_option autoImplicit false
set_option maxRecDepth 100000
namespace L2.DL
open PySem PySem.Spec PyProof.Rows
/-! ### keywords' values put in the parameters' order -/
def permI {α : Type} (idx : List Nat) (ws : List α) : List α := if ws.length = idx.length then idx.filterMap (fun i => ws[i]?) else []
def permV {α : Type} (idx : List Nat) (us ws : List α) : List α := match us with | [] => permI idx ws | _ :: _ => []
theorem Vals.permI {vs : List V} {us : List Value} (idx : List Nat) (r : Vals vs us) : Vals (permI idx vs) (permI idx us) := by
  unfold DL.permI
  rw [r.length]
  split
  · rename_i hlen; clear hlen
    induction idx with
    | nil => exact .nil
    | cons i is ih =>
      rw [List.filterMap_cons, List.filterMap_cons]
      cases e : vs[i]? with
      | none => rw [r.none_of e]; exact ih
      | some v =>
        obtain ⟨u, h1, h2⟩ := r.get e
        rw [h1]
        exact .cons h2 ih
  · exact .nil
theorem HasL.permI {K : PySem.W.Frag} {H : Hp} {vs : List V} {us : List D} (idx : List Nat) (r : HasL K H vs us) : HasL K H (permI idx vs) (permI idx us) := by
  unfold DL.permI
  rw [r.length]
  split
  · rename_i hlen; clear hlen
    induction idx with
    | nil => exact .nil
    | cons i is ih =>
      rw [List.filterMap_cons, List.filterMap_cons]
      cases e : us[i]? with
      | none =>
        have : vs[i]? = none := by
          have h1 := r.length
          have h2 : us.length ≤ i := List.getElem?_eq_none_iff.mp e
          exact List.getElem?_eq_none_iff.mpr (by omega)
        rw [this]; exact ih
      | some d =>
        obtain ⟨v, h1, h2⟩ := r.getD' e
        rw [h1]
        exact .cons h2 ih
  · exact .nil
theorem permV_rel (idx : List Nat) {vs zs : List V} {us ws : List Value} (r1 : Vals vs us) (r2 : Vals zs ws) : Vals (permV idx vs zs) (permV idx us ws) := by
  cases r1 with
  | nil => exact Vals.permI idx r2
  | cons _ _ => exact .nil
theorem kb_of {K : PySem.W.Frag} {fd : FuncData} {ps ks : List Str} (idx : List Nat) (hn : ps.length ≠ 0)
    (h : ∀ (s : Shared) (ws : List Value), ws.length = idx.length → BindsTo s fd ⟨[], ks.zip ws⟩ (ps.zip (permI idx ws))) : KBinds K fd ps ks (permV idx) (permV idx) where
  to := fun s us ws _ hl => by
    cases us with
    | nil =>
      by_cases e : ws.length = idx.length
      · exact h s ws e
      · have z : (permV idx [] ws) = ([] : List Value) := by
          show permI idx ws = []
          unfold permI
          rw [if_neg e]
        rw [z] at hl
        exact absurd hl.symm hn
    | cons u us => exact absurd (show (0 : Nat) = ps.length from hl).symm hn
  rel := fun r1 r2 => permV_rel idx r1 r2
/-- a global of the module: a text, a number -/
theorem dGlobS {X : Cx} {F : Hp} {γ : Gm} {x y : Str} {pos : Pos} (hm : ∃ t : Tok, X.mg x = some (.str y t)) (hg : Gl X x := by rfl) (hdb : (x == ("__debug__" : Str)) = false := by decide) : PE X (.Name x pos) (tG X.K F γ (wC (.str y))) := by
  obtain ⟨t, e⟩ := hm
  exact dGlob (v := .str y) e ⟨t, rfl⟩ (fun _ _ => .str _) hg hdb
theorem dGlobI {X : Cx} {F : Hp} {γ : Gm} {x : Str} {y : Int} {pos : Pos} (hm : ∃ t : Tok, X.mg x = some (.int y t)) (hg : Gl X x := by rfl) (hdb : (x == ("__debug__" : Str)) = false := by decide) : PE X (.Name x pos) (tG X.K F γ (wC (.int y))) := by
  obtain ⟨t, e⟩ := hm
  exact dGlob (v := .int y) e ⟨t, rfl⟩ (fun _ _ => .int _) hg hdb
/-! ### the operations by kinds -/
section
variable {P : D → Prop} {a b : Int} {x y : Str} {ds es : List D}
theorem addD_i : addD (.int a) (.int b) P = P (.int (a + b)) := rfl
theorem addD_s : addD (.str x) (.str y) P = (x.length + y.length ≤ sizeLine ∧ P (.str (x ++ y))) := rfl
theorem addD_l : addD (.lst ds) (.lst es) P = (ds.length + es.length ≤ sizeLine ∧ P (.lst (ds ++ es))) := rfl
theorem addD_t : addD (.tup ds) (.tup es) P = (ds.length + es.length ≤ sizeLine ∧ P (.tup (ds ++ es))) := rfl
theorem subD_i : subD (.int a) (.int b) P = P (.int (a - b)) := rfl
theorem mulD_i : mulD (.int a) (.int b) P = (CMul a b ∧ P (.int (a * b))) := rfl
theorem mulD_s : mulD (.str x) (.int a) P = (-(2 ^ 62) ≤ a ∧ a < 2 ^ 62 ∧ x.length * a.toNat ≤ sizeLine ∧ P (.str (smul x a))) := rfl
theorem mulD_l : mulD (.lst ds) (.int a) P = (-(2 ^ 62) ≤ a ∧ a < 2 ^ 62 ∧ ds.length * a.toNat ≤ sizeLine ∧ P (.lst (List.replicate a.toNat ds).flatten)) := rfl
theorem fdivD_i : fdivD (.int a) (.int b) P = (FDiv b ∧ P (.int (a / b))) := rfl
theorem modD_i : modD (.int a) (.int b) P = (0 < b ∧ P (.int (a % b))) := rfl
theorem powD_i : powD (.int a) (.int b) P = (CPow a b ∧ P (.int (a ^ b.toNat))) := rfl
theorem negD_i : negD (.int a) P = P (.int (-a)) := rfl
theorem ltD_i : ltD (.int a) (.int b) P = P (.bl (decide (a < b))) := rfl
theorem leD_i : leD (.int a) (.int b) P = P (.bl (decide (a ≤ b))) := rfl
theorem gtD_i : gtD (.int a) (.int b) P = P (.bl (decide (b < a))) := rfl
theorem geD_i : geD (.int a) (.int b) P = P (.bl (decide (b ≤ a))) := rfl
theorem ltD_s : ltD (.str x) (.str y) P = P (.bl (decide (x.cps.toList < y.cps.toList))) := rfl
theorem gtD_s : gtD (.str x) (.str y) P = P (.bl (decide (y.cps.toList < x.cps.toList))) := rfl
theorem isD_n {d : D} : isD d .non P = P (.bl d.isN) := by cases d <;> rfl
theorem isntD_n {d : D} : isntD d .non P = P (.bl (!d.isN)) := by cases d <;> rfl
theorem one_1 {f : D1} {d : D} : one f [d] P = f d P := by
  unfold one
  apply propext
  constructor
  · rintro ⟨e, h, q⟩
    cases h
    exact q
  · exact fun q => ⟨d, rfl, q⟩
theorem intD_i : intD (.int a) P = P (.int a) := rfl
theorem intD_b {k : Bool} : intD (.bl k) P = P (.int (if k then 1 else 0)) := rfl
theorem absD_i : absD (.int a) P = P (.int (if a < 0 then -a else a)) := rfl
theorem lenD_s : lenD (.str x) P = (x.length ≤ sizeLine ∧ P (.int x.length)) := rfl
theorem lenD_l : lenD (.lst ds) P = P (.int ds.length) := rfl
theorem lenD_t : lenD (.tup ds) P = P (.int ds.length) := rfl
theorem strD_i : strD (.int a) P = (a.natAbs.log2 < 1920 ∧ P (.str (toString a))) := rfl
theorem ixD_l : ixD (.lst ds) (.int a) P = ∃ d, atI ds a = some d ∧ P d := rfl
theorem ixD_t : ixD (.tup ds) (.int a) P = ∃ d, atI ds a = some d ∧ P d := rfl
theorem ixD_s : ixD (.str x) (.int a) P = (x.length ≤ sizeLine ∧ ∃ c, atI x.cps.toList a = some c ∧ P (.str ⟨#[c]⟩)) := rfl
theorem slD_s {lo hi : Option Int} : slD (.str x) lo hi P = (x.length ≤ sizeLine ∧ P (.str (cutS x lo hi))) := rfl
theorem slD_l {lo hi : Option Int} : slD (.lst ds) lo hi P = P (.lst (cutD ds lo hi)) := rfl
theorem slD_t {lo hi : Option Int} : slD (.tup ds) lo hi P = P (.tup (cutD ds lo hi)) := rfl
theorem inD_s : inD (.str x) (.str y) P = P (.bl (strIn x y)) := rfl
theorem notinD_s : notinD (.str x) (.str y) P = P (.bl (!strIn x y)) := rfl
theorem inD_l {d : D} : inD d (.lst es) P = (d.scalar = true ∧ es.all D.scalar = true ∧ P (.bl (inB d es))) := by cases d <;> rfl
theorem inD_t {d : D} : inD d (.tup es) P = (d.scalar = true ∧ es.all D.scalar = true ∧ P (.bl (inB d es))) := by cases d <;> rfl
theorem notinD_l {d : D} : notinD d (.lst es) P = (d.scalar = true ∧ es.all D.scalar = true ∧ P (.bl (!inB d es))) := by cases d <;> rfl
theorem notinD_t {d : D} : notinD d (.tup es) P = (d.scalar = true ∧ es.all D.scalar = true ∧ P (.bl (!inB d es))) := by cases d <;> rfl
theorem eqb_i : D.eqb (.int a) (.int b) = (a == b) := by simp only [D.eqb, D.p, PyData.eqv]
theorem eqb_s : D.eqb (.str x) (.str y) = (x == y) := by simp only [D.eqb, D.p, PyData.eqv]
theorem eqb_b {j k : Bool} : D.eqb (.bl j) (.bl k) = (j == k) := by simp only [D.eqb, D.p, PyData.eqv]
theorem eqOk_i : eqOk (.int a) (.int b) = true := rfl
theorem eqOk_s : eqOk (.str x) (.str y) = true := rfl
theorem eqOk_b {j k : Bool} : eqOk (.bl j) (.bl k) = true := rfl
theorem toTupD_l : toTupD (.lst ds) P = P (.tup ds) := rfl
theorem toTupD_t : toTupD (.tup ds) P = P (.tup ds) := rfl
theorem toLstD_l : toLstD (.lst ds) P = P (.lst ds) := rfl
theorem toLstD_t : toLstD (.tup ds) P = P (.lst ds) := rfl
theorem toTupD_s : toTupD (.str x) P = (x.length ≤ sizeLine ∧ P (.tup (signs x))) := rfl
theorem toLstD_s : toLstD (.str x) P = (x.length ≤ sizeLine ∧ P (.lst (signs x))) := rfl
theorem joinD_l {z : Str} : joinD z (.lst ds) P = ∃ ys, D.strs ds = some ys ∧ (ys.map (·.length)).sum + ys.length * z.length ≤ 16777216 ∧ P (.str (Txt.join z ys)) := rfl
theorem countD_s : countD x (.str y) P = P (.int (Txt.count x y)) := rfl
theorem startswithD_s : startswithD x (.str y) P = P (.bl (Txt.startswith x y)) := rfl
theorem allD_l {any : Bool} : allD any (.lst ds) P = ∃ bs, D.bls ds = some bs ∧ P (.bl (if any then bs.any (fun b => b) else bs.all (fun b => b))) := rfl
/-- an item of a list of ints -/
theorem at_ints {Q : D → Prop} {cs : List D} (hi : ∀ d ∈ cs, ∃ n, d = D.int n) {i : Int} (h0 : 0 ≤ i) (h1 : i < cs.length) (h : ∀ n, Q (.int n)) : ∃ d, atI cs i = some d ∧ Q d := by
  obtain ⟨k, rfl⟩ : ∃ k : Nat, i = (k : Int) := ⟨i.toNat, by omega⟩
  have hk : k < cs.length := by omega
  obtain ⟨n, e⟩ := hi cs[k] (List.getElem_mem hk)
  exact ⟨.int n, atI_nat (by rw [List.getElem?_eq_getElem hk, e]), h n⟩
end
end L2.DL

namespace L2.DL
open PySem
/-! ### the tick's numbers -/
theorem ints_ps {cs : List D} (hi : ∀ d ∈ cs, ∃ n, d = D.int n) : D.flats cs = true ∧ PyData.canLayAll0 (D.ps cs) = true ∧ PyData.depthAll (D.ps cs) = 0 := by
  induction cs with
  | nil => exact ⟨rfl, rfl, rfl⟩
  | cons d ds ih =>
    obtain ⟨n, rfl⟩ := hi _ List.mem_cons_self
    obtain ⟨h1, h2, h3⟩ := ih fun d hd => hi d (List.mem_cons_of_mem _ hd)
    refine ⟨?_, ?_, ?_⟩
    · show (true && D.flats ds) = true
      rw [h1]; rfl
    · show (true && PyData.canLayAll0 (D.ps ds)) = true
      rw [h2]; rfl
    · show max 0 (PyData.depthAll (D.ps ds)) = 0
      rw [h3]; rfl
theorem ints_eqOk {cs : List D} (hi : ∀ d ∈ cs, ∃ n, d = D.int n) : eqOk (.lst cs) (.lst []) = true := by
  obtain ⟨h1, h2, h3⟩ := ints_ps hi
  have e : (D.lst cs).deepOk = true := by
    show (D.flats cs && (PyData.canLayAll0 (D.ps cs) && decide (PyData.depthAll (D.ps cs) + 1 ≤ 64))) = true
    rw [h1, h2, h3]; rfl
  show ((D.lst cs).deepOk && (D.lst []).deepOk) = true
  rw [e]; rfl
theorem eqb_nil (cs : List D) : D.eqb (.lst cs) (.lst []) = cs.isEmpty := by
  cases cs with
  | nil => simp only [D.eqb, D.p, D.ps, PyData.eqv, PyData.eqvAll]; rfl
  | cons d ds => simp only [D.eqb, D.p, D.ps, PyData.eqv, PyData.eqvAll]; rfl
theorem cmul_l {a b : Int} (h0 : -1000000000000 ≤ a) (h1 : a ≤ 1000000000000) : CMul a b := .inl (by omega)
theorem cmul_r {a b : Int} (h0 : -1000000000000 ≤ b) (h1 : b ≤ 1000000000000) : CMul a b := .inr (by omega)
theorem cpow_18 : CPow 10 18 := by unfold CPow; decide
theorem mix_1 {n a M K1 K2 : Int} (h0 : 0 ≤ a) (h1 : a ≤ 2097152) (m0 : 0 < M) (m1 : M ≤ 4294967296) (k0 : 0 ≤ K1) (k1 : K1 ≤ 1000000) (l0 : 0 ≤ K2) (l1 : K2 ≤ 1000000) : CPow (n % M + K1 * a + K2) 5 := by
  have a1 := Int.emod_nonneg n (show M ≠ 0 by omega)
  have a2 := Int.emod_lt_of_pos n m0
  have a3 : 0 ≤ K1 * a := Int.mul_nonneg k0 h0
  have a4 : K1 * a ≤ 1000000 * 2097152 := Int.mul_le_mul k1 h1 h0 (by omega)
  refine ⟨by decide, by decide, ?_⟩
  omega
theorem mix_2 {n a M K1 K2 K3 : Int} (h0 : 0 ≤ a) (h1 : a ≤ 2097152) (m0 : 0 < M) (m1 : M ≤ 4294967296) (k0 : 0 ≤ K1) (k1 : K1 ≤ 1000000) (l0 : 0 ≤ K2) (l1 : K2 ≤ 1000000) (j0 : 0 ≤ K3) (j1 : K3 ≤ 1000000) : CPow (n % M * (2 * a + K1) + K2 * a * a + K3) 3 := by
  have a1 := Int.emod_nonneg n (show M ≠ 0 by omega)
  have a2 := Int.emod_lt_of_pos n m0
  have b1 : 0 ≤ n % M * (2 * a + K1) := Int.mul_nonneg a1 (by omega)
  have b2 : n % M * (2 * a + K1) ≤ 4294967296 * 6000000 := Int.mul_le_mul (by omega) (by omega) (by omega) (by omega)
  have a3 : 0 ≤ K2 * a := Int.mul_nonneg l0 h0
  have a4 : K2 * a ≤ 1000000 * 2097152 := Int.mul_le_mul l1 h1 h0 (by omega)
  have a5 : 0 ≤ K2 * a * a := Int.mul_nonneg a3 h0
  have a6 : K2 * a * a ≤ 1000000 * 2097152 * 2097152 := Int.mul_le_mul a4 h1 h0 (by omega)
  refine ⟨by decide, by decide, ?_⟩
  omega
end L2.DL

namespace L2.DL
open PySem
/-! ### loops and comprehensions in plain Lean -/
theorem forW_inv {g : WG} {body : WS} {ds : List D} {E : WEnds} {env : List Sl} {c : Nat} (I : Nat → List Sl → Nat → Prop) (h0 : I 0 env c)
    (step : ∀ i d env c (K : List Sl → Nat → Prop), ds[i]? = some d → I i env c → (∀ env' c', I (i + 1) env' c' → K env' c') → g d env fun env1 => body { nx := K, rt := E.rt, bk := E.nx, ct := K } env1 c)
    (hend : ∀ env c, I ds.length env c → E.nx env c) : forW g body ds E env c := by
  have go : ∀ (es : List D) (i : Nat) (env : List Sl) (c : Nat), es = ds.drop i → i ≤ ds.length → I i env c → forW g body es E env c := by
    intro es
    induction es with
    | nil =>
      intro i env c e hi h
      have : i = ds.length := by
        have := congrArg List.length e
        rw [List.length_nil, List.length_drop] at this
        omega
      subst this
      exact hend env c h
    | cons d es ih =>
      intro i env c e hi h
      have hd : ds[i]? = some d := by
        have := congrArg (fun l => l[0]?) e
        simp only [List.getElem?_cons_zero, List.getElem?_drop, Nat.add_zero] at this
        exact this.symm
      have hlt : i < ds.length := (List.getElem?_eq_some_iff.mp hd).1
      refine step i d env c (forW g body es E) hd h fun env' c' h' => ?_
      refine ih (i + 1) env' c' ?_ hlt h'
      have := congrArg List.tail e
      rw [List.tail_cons, List.tail_drop] at this
      exact this
  exact go ds 0 env c (by rw [List.drop_zero]) (Nat.zero_le _) h0
theorem compN_inv {g : WG} {tt : WT} {te : WE} {env : List Sl} {ds : List D} {c : Nat} {P : List D → Nat → Prop} (I : Nat → List D → Nat → Prop) (h0 : I 0 [] c)
    (step : ∀ i d ys c (K : D → Nat → Prop) (Ks : Nat → Prop), ds[i]? = some d → I i ys c → (∀ y c', I (i + 1) (ys ++ [y]) c' → K y c') → (∀ c', I (i + 1) ys c' → Ks c') → g d env fun env1 => tt env1 c fun k c1 => if k = true then te env1 c1 K else Ks c1)
    (hend : ∀ ys c, I ds.length ys c → P ys c) : compN g tt te env ds c P := by
  have go : ∀ (es : List D) (i : Nat) (ys : List D) (c : Nat) (P' : List D → Nat → Prop), es = ds.drop i → i ≤ ds.length → I i ys c → (∀ zs c, P (ys ++ zs) c → P' zs c) → compN g tt te env es c P' := by
    intro es
    induction es with
    | nil =>
      intro i ys c P' e hi h hP
      have : i = ds.length := by
        have := congrArg List.length e
        rw [List.length_nil, List.length_drop] at this
        omega
      subst this
      exact hP [] c (by rw [List.append_nil]; exact hend ys c h)
    | cons d es ih =>
      intro i ys c P' e hi h hP
      have hd : ds[i]? = some d := by
        have := congrArg (fun l => l[0]?) e
        simp only [List.getElem?_cons_zero, List.getElem?_drop, Nat.add_zero] at this
        exact this.symm
      have hlt : i < ds.length := (List.getElem?_eq_some_iff.mp hd).1
      have ht : es = ds.drop (i + 1) := by
        have := congrArg List.tail e
        rw [List.tail_cons, List.tail_drop] at this
        exact this
      refine step i d ys c _ _ hd h (fun y c' h' => ?_) (fun c' h' => ?_)
      · exact ih (i + 1) (ys ++ [y]) c' _ ht hlt h' fun zs c hz => hP (y :: zs) c (by rw [List.append_assoc] at hz; exact hz)
      · exact ih (i + 1) ys c' _ ht hlt h' hP
  exact go ds 0 [] c P (by rw [List.drop_zero]) (Nat.zero_le _) h0 fun zs c h => h
theorem compN_pure {g : WG} {tt : WT} {te : WE} {env : List Sl} {ds : List D} {c : Nat} {P : List D → Nat → Prop} (f : D → Bool) (y : D → D)
    (step : ∀ d ∈ ds, ∀ (K : D → Nat → Prop) (Ks : Nat → Prop), (f d = true → K (y d) c) → (f d = false → Ks c) → g d env fun env1 => tt env1 c fun k c1 => if k = true then te env1 c1 K else Ks c1)
    (h : P ((ds.filter f).map y) c) : compN g tt te env ds c P := by
  induction ds generalizing P with
  | nil => exact h
  | cons d ds ih =>
    refine step d List.mem_cons_self _ _ (fun hf => ?_) (fun hf => ?_)
    · refine ih (fun d' hd => step d' (List.mem_cons_of_mem _ hd)) ?_
      rw [List.filter_cons_of_pos hf] at h
      exact h
    · refine ih (fun d' hd => step d' (List.mem_cons_of_mem _ hd)) ?_
      rw [List.filter_cons_of_neg (by rw [hf]; exact Bool.false_ne_true)] at h
      exact h
/-- an item of a list -/
theorem at_list {Q : D → Prop} {cs : List D} {i : Int} (h0 : 0 ≤ i) (h1 : i < cs.length) (h : ∀ d ∈ cs, Q d) : ∃ d, atI cs i = some d ∧ Q d := by
  obtain ⟨k, rfl⟩ : ∃ k : Nat, i = (k : Int) := ⟨i.toNat, by omega⟩
  have hk : k < cs.length := by omega
  exact ⟨cs[k], atI_nat (by rw [List.getElem?_eq_getElem hk]), h _ (List.getElem_mem hk)⟩
theorem reprD_b {k : Bool} {P : D → Prop} : reprD (.bl k) P = P (.str (PyData.shown (.bool k))) := by
  apply propext
  constructor
  · exact fun h => h.2.2.2.2
  · exact fun h => ⟨rfl, rfl, Nat.zero_le _, by cases k <;> decide +kernel, h⟩
end L2.DL

set_option Elab.async false
set_option linter.all false
set_option autoImplicit false
set_option maxRecDepth 100000
/-! Plain tools for the laws. -/
namespace L2.DL
open PySem PySem.Spec PyProof.Rows
/-- all its signs are code points -/
def SV (z : Str) : Prop := PyData.strOk z = true
theorem sv_iff {z : Str} : SV z ↔ ∀ c ∈ z.cps.toList, c < 0x110000 := by
  unfold SV PyData.strOk
  rw [Array.all_eq_true']
  simp
theorem sv_int {i : Int} : SV (Str.ofString (toString i)) := by
  rw [sv_iff, Str.ofString_eq_toList]
  intro c hc
  simp only [List.mem_map] at hc
  obtain ⟨k, _, rfl⟩ := hc
  have := k.valid
  rcases this with h | h
  · exact Nat.lt_of_lt_of_le h (by decide)
  · exact h.2
theorem sv_app {x y : Str} (h : SV x) (k : SV y) : SV (x ++ y) := by
  rw [sv_iff] at h k ⊢
  intro c hc
  have e : (x ++ y).cps.toList = x.cps.toList ++ y.cps.toList := by
    show (x.cps ++ y.cps).toList = _
    exact Array.toList_append
  rw [e, List.mem_append] at hc
  exact hc.elim (h c) (k c)
theorem sv_cut {x : Str} {lo hi : Option Int} (h : SV x) : SV (cutS x lo hi) := by
  rw [sv_iff] at h ⊢
  intro c hc
  refine h c ?_
  unfold cutS at hc
  first
    | exact List.mem_of_mem_drop (List.mem_of_mem_take (by simpa using hc))
    | (simp at hc; exact List.mem_of_mem_drop (List.mem_of_mem_take hc))
theorem strs_ps {ds : List D} (h : ∀ d ∈ ds, ∃ z, d = D.str z ∧ SV z) : D.flats ds = true ∧ PyData.canLayAll0 (D.ps ds) = true ∧ PyData.depthAll (D.ps ds) = 0 := by
  induction ds with
  | nil => exact ⟨rfl, rfl, rfl⟩
  | cons d ds ih =>
    obtain ⟨z, rfl, hz⟩ := h _ List.mem_cons_self
    obtain ⟨h1, h2, h3⟩ := ih fun d hd => h d (List.mem_cons_of_mem _ hd)
    refine ⟨?_, ?_, ?_⟩
    · show (true && D.flats ds) = true
      rw [h1]; rfl
    · show (PyData.strOk z && PyData.canLayAll0 (D.ps ds)) = true
      rw [h2, hz]; rfl
    · show max 0 (PyData.depthAll (D.ps ds)) = 0
      rw [h3]; rfl
theorem strs_eqOk {cs : List D} (h : ∀ d ∈ cs, ∃ z, d = D.str z ∧ SV z) : eqOk (.lst cs) (.lst []) = true := by
  obtain ⟨h1, h2, h3⟩ := strs_ps h
  have e : (D.lst cs).deepOk = true := by
    show (D.flats cs && (PyData.canLayAll0 (D.ps cs) && decide (PyData.depthAll (D.ps cs) + 1 ≤ 64))) = true
    rw [h1, h2, h3]; rfl
  show ((D.lst cs).deepOk && (D.lst []).deepOk) = true
  rw [e]; rfl
theorem signs_sv {z : Str} (h : SV z) {d : D} (hd : d ∈ signs z) : ∃ y, d = D.str y ∧ SV y := by
  unfold signs at hd
  obtain ⟨c, hc, rfl⟩ := List.mem_map.mp hd
  refine ⟨_, rfl, ?_⟩
  rw [sv_iff] at h ⊢
  intro c' hc'
  simp at hc'
  subst hc'
  exact h _ hc
theorem strIn_1 {c : Nat} {y : Str} : strIn ⟨#[c]⟩ y = decide (c ∈ y.cps.toList) := rfl
theorem log2_lt1 {n : Nat} (h : n < 2 ^ 300) : n.log2 < 1920 := by
  by_cases h0 : n = 0
  · subst h0; decide
  · exact Nat.lt_of_lt_of_le ((Nat.log2_lt h0).mpr h) (by decide)
theorem reprD_bb {a b : Bool} {P : D → Prop} : reprD (.lst [.bl a, .bl b]) P = P (.str (PyData.shown (.list [.bool a, .bool b]))) := by
  apply propext
  constructor
  · exact fun h => h.2.2.2.2
  · exact fun h => ⟨rfl, rfl, by cases a <;> cases b <;> decide, by cases a <;> cases b <;> decide +kernel, h⟩
/-! ### slots that hold no own list -/
def Sl.qt : Sl → Bool | .no => true | .val _ => true | _ => false
class Quiet (x : Sl) : Prop where
  q : x.qt = true
instance : Quiet .no := ⟨rfl⟩
instance (d : D) : Quiet (.val d) := ⟨rfl⟩
theorem ngx_q {x : Sl} [h : Quiet x] : Sl.ngx x = true := by
  obtain ⟨h⟩ := h
  cases x <;> first | rfl | exact Bool.noConfusion h
theorem calm_q {x : Sl} [h : Quiet x] : Sl.calm (some x) = true := by
  obtain ⟨h⟩ := h
  cases x <;> first | rfl | exact Bool.noConfusion h
theorem ngx_gau : Sl.ngx .gau = true := rfl
theorem ngx_own {ds : List D} : Sl.ngx (.own ds) = true := rfl
theorem ngx_gx {ds : List D} {i r : Int} : Sl.ngx (.gx ds i r) = false := rfl
theorem calm_gau : Sl.calm (some .gau) = true := rfl
inductive Rest : Nat → List Sl → Prop
  | nil : Rest 0 []
  | cons {x : Sl} {n : Nat} {l : List Sl} : Quiet x → Rest n l → Rest (n + 1) (x :: l)
theorem perm_0 {a : D} : permI [0] [a] = [a] := rfl
theorem perm_01 {a b : D} : permI [0, 1] [a, b] = [a, b] := rfl
theorem perm_10 {a b : D} : permI [1, 0] [a, b] = [b, a] := rfl
theorem perm_012 {a b c : D} : permI [0, 1, 2] [a, b, c] = [a, b, c] := rfl
theorem perm_021 {a b c : D} : permI [0, 2, 1] [a, b, c] = [a, c, b] := rfl
theorem perm_102 {a b c : D} : permI [1, 0, 2] [a, b, c] = [b, a, c] := rfl
theorem perm_120 {a b c : D} : permI [1, 2, 0] [a, b, c] = [b, c, a] := rfl
theorem perm_201 {a b c : D} : permI [2, 0, 1] [a, b, c] = [c, a, b] := rfl
theorem perm_210 {a b c : D} : permI [2, 1, 0] [a, b, c] = [c, b, a] := rfl
theorem perm_0123 {a b c d : D} : permI [0, 1, 2, 3] [a, b, c, d] = [a, b, c, d] := rfl
theorem perm_0132 {a b c d : D} : permI [0, 1, 3, 2] [a, b, c, d] = [a, b, d, c] := rfl
theorem perm_0213 {a b c d : D} : permI [0, 2, 1, 3] [a, b, c, d] = [a, c, b, d] := rfl
theorem perm_0231 {a b c d : D} : permI [0, 2, 3, 1] [a, b, c, d] = [a, c, d, b] := rfl
theorem perm_0312 {a b c d : D} : permI [0, 3, 1, 2] [a, b, c, d] = [a, d, b, c] := rfl
theorem perm_0321 {a b c d : D} : permI [0, 3, 2, 1] [a, b, c, d] = [a, d, c, b] := rfl
theorem perm_1023 {a b c d : D} : permI [1, 0, 2, 3] [a, b, c, d] = [b, a, c, d] := rfl
theorem perm_1032 {a b c d : D} : permI [1, 0, 3, 2] [a, b, c, d] = [b, a, d, c] := rfl
theorem perm_1203 {a b c d : D} : permI [1, 2, 0, 3] [a, b, c, d] = [b, c, a, d] := rfl
theorem perm_1230 {a b c d : D} : permI [1, 2, 3, 0] [a, b, c, d] = [b, c, d, a] := rfl
theorem perm_1302 {a b c d : D} : permI [1, 3, 0, 2] [a, b, c, d] = [b, d, a, c] := rfl
theorem perm_1320 {a b c d : D} : permI [1, 3, 2, 0] [a, b, c, d] = [b, d, c, a] := rfl
theorem perm_2013 {a b c d : D} : permI [2, 0, 1, 3] [a, b, c, d] = [c, a, b, d] := rfl
theorem perm_2031 {a b c d : D} : permI [2, 0, 3, 1] [a, b, c, d] = [c, a, d, b] := rfl
theorem perm_2103 {a b c d : D} : permI [2, 1, 0, 3] [a, b, c, d] = [c, b, a, d] := rfl
theorem perm_2130 {a b c d : D} : permI [2, 1, 3, 0] [a, b, c, d] = [c, b, d, a] := rfl
theorem perm_2301 {a b c d : D} : permI [2, 3, 0, 1] [a, b, c, d] = [c, d, a, b] := rfl
theorem perm_2310 {a b c d : D} : permI [2, 3, 1, 0] [a, b, c, d] = [c, d, b, a] := rfl
theorem perm_3012 {a b c d : D} : permI [3, 0, 1, 2] [a, b, c, d] = [d, a, b, c] := rfl
theorem perm_3021 {a b c d : D} : permI [3, 0, 2, 1] [a, b, c, d] = [d, a, c, b] := rfl
theorem perm_3102 {a b c d : D} : permI [3, 1, 0, 2] [a, b, c, d] = [d, b, a, c] := rfl
theorem perm_3120 {a b c d : D} : permI [3, 1, 2, 0] [a, b, c, d] = [d, b, c, a] := rfl
theorem perm_3201 {a b c d : D} : permI [3, 2, 0, 1] [a, b, c, d] = [d, c, a, b] := rfl
theorem perm_3210 {a b c d : D} : permI [3, 2, 1, 0] [a, b, c, d] = [d, c, b, a] := rfl
theorem sz_0 : (0 ≤ sizeLine) = True := eq_true (by decide)
theorem sz_1 : (1 ≤ sizeLine) = True := eq_true (by decide)
theorem sz_2 : (2 ≤ sizeLine) = True := eq_true (by decide)
theorem sz_3 : (3 ≤ sizeLine) = True := eq_true (by decide)
theorem sz_4 : (4 ≤ sizeLine) = True := eq_true (by decide)
theorem sz_5 : (5 ≤ sizeLine) = True := eq_true (by decide)
theorem sz_6 : (6 ≤ sizeLine) = True := eq_true (by decide)
theorem sz_7 : (7 ≤ sizeLine) = True := eq_true (by decide)
theorem sz_8 : (8 ≤ sizeLine) = True := eq_true (by decide)
theorem sz_9 : (9 ≤ sizeLine) = True := eq_true (by decide)
theorem sz_10 : (10 ≤ sizeLine) = True := eq_true (by decide)
theorem sz_11 : (11 ≤ sizeLine) = True := eq_true (by decide)
theorem sz_12 : (12 ≤ sizeLine) = True := eq_true (by decide)
theorem sz_13 : (13 ≤ sizeLine) = True := eq_true (by decide)
theorem sz_14 : (14 ≤ sizeLine) = True := eq_true (by decide)
theorem sz_15 : (15 ≤ sizeLine) = True := eq_true (by decide)
theorem sz_16 : (16 ≤ sizeLine) = True := eq_true (by decide)
theorem sz_17 : (17 ≤ sizeLine) = True := eq_true (by decide)
theorem sz_18 : (18 ≤ sizeLine) = True := eq_true (by decide)
theorem sz_19 : (19 ≤ sizeLine) = True := eq_true (by decide)
theorem sz_20 : (20 ≤ sizeLine) = True := eq_true (by decide)
theorem sz_21 : (21 ≤ sizeLine) = True := eq_true (by decide)
theorem sz_22 : (22 ≤ sizeLine) = True := eq_true (by decide)
theorem sz_23 : (23 ≤ sizeLine) = True := eq_true (by decide)
theorem sz_24 : (24 ≤ sizeLine) = True := eq_true (by decide)
theorem sz_25 : (25 ≤ sizeLine) = True := eq_true (by decide)
theorem sz_26 : (26 ≤ sizeLine) = True := eq_true (by decide)
theorem sz_27 : (27 ≤ sizeLine) = True := eq_true (by decide)
theorem sz_28 : (28 ≤ sizeLine) = True := eq_true (by decide)
theorem sz_29 : (29 ≤ sizeLine) = True := eq_true (by decide)
theorem sz_30 : (30 ≤ sizeLine) = True := eq_true (by decide)
theorem sz_31 : (31 ≤ sizeLine) = True := eq_true (by decide)
theorem sz_32 : (32 ≤ sizeLine) = True := eq_true (by decide)
theorem sz_33 : (33 ≤ sizeLine) = True := eq_true (by decide)
theorem sz_34 : (34 ≤ sizeLine) = True := eq_true (by decide)
theorem sz_35 : (35 ≤ sizeLine) = True := eq_true (by decide)
theorem sz_36 : (36 ≤ sizeLine) = True := eq_true (by decide)
theorem sz_37 : (37 ≤ sizeLine) = True := eq_true (by decide)
theorem sz_38 : (38 ≤ sizeLine) = True := eq_true (by decide)
theorem sz_39 : (39 ≤ sizeLine) = True := eq_true (by decide)
theorem sz_40 : (40 ≤ sizeLine) = True := eq_true (by decide)
theorem strs_map : ∀ {zs : List Str}, D.strs (zs.map .str) = some zs
  | [] => rfl
  | z :: zs => by
    show (D.strs (zs.map .str)).map (z :: ·) = _
    rw [strs_map]; rfl
theorem sum_one : ∀ {zs : List Str} {b : Nat}, (∀ z ∈ zs, z.length ≤ b) → (zs.map fun x => x.length).sum ≤ zs.length * b
  | [], _, _ => Nat.zero_le _
  | z :: zs, b, h => by
    have h1 := h z List.mem_cons_self
    have h2 := sum_one fun y hy => h y (List.mem_cons_of_mem _ hy)
    rw [List.map_cons, List.sum_cons, List.length_cons, Nat.add_mul]
    omega
theorem join_len {zs : List Str} {b : Nat} {s : Str} (h : ∀ z ∈ zs, z.length ≤ b) : (Txt.join s zs).length ≤ zs.length * b + zs.length * s.length := by
  have e : Txt.join s zs = Str.join s zs := StrLaws.glued_eq_join s zs
  rw [e]
  exact Nat.le_trans (StrLaws.join_length_le s zs) (Nat.add_le_add_right (sum_one h) _)
theorem sv_join {s : Str} (hs : SV s) : ∀ {zs : List Str}, (∀ z ∈ zs, SV z) → SV (Txt.join s zs) := by
  intro zs h
  have e : Txt.join s zs = Str.join s zs := StrLaws.glued_eq_join s zs
  rw [e]
  clear e
  induction zs with
  | nil => exact sv_iff.mpr fun c hc => by cases hc
  | cons x r ih =>
    cases r with
    | nil => exact h x List.mem_cons_self
    | cons y r => exact sv_app (sv_app (h x List.mem_cons_self) hs) (ih fun z hz => h z (List.mem_cons_of_mem _ hz))
theorem range_len {lo : Int} {n : Nat} : (rangeD lo n).length = n := by simp [rangeD]
theorem range_at {lo : Int} {n i : Nat} {d : D} (h : (rangeD lo n)[i]? = some d) : i < n ∧ d = .int (lo + i) := by
  have hi := (List.getElem?_eq_some_iff.mp h).1
  rw [range_len] at hi
  refine ⟨hi, ?_⟩
  simp only [rangeD, List.getElem?_map, List.getElem?_range hi, Option.map_some, Option.some.injEq] at h
  exact h.symm
theorem cut_len {x : Str} {lo hi : Option Int} : (cutS x lo hi).length ≤ x.length := by
  unfold cutS
  show (List.toArray _).size ≤ _
  rw [List.size_toArray, List.length_take, List.length_drop]
  have : x.cps.toList.length = x.length := Array.length_toList
  omega
end L2.DL

set_option Elab.async false
set_option linter.all false
set_option autoImplicit false
set_option maxRecDepth 100000
/-! More that is walked, reversed slices. -/
namespace L2.DL
open PySem PySem.Spec PyProof.Rows
section
variable {X : Cx} {F : Hp} {γ : Gm} {pos : Pos}
/-! ### e[::-1] -/
def revS (z : Str) : Str := ⟨z.cps.toList.reverse.toArray⟩
def revD : D1
  | .str z, P => z.length ≤ sizeLine ∧ P (.str (revS z))
  | .lst ds, P => P (.lst ds.reverse)
  | _, _ => False
theorem HasL.reverse {K : PySem.W.Frag} {H : Hp} : ∀ {xs : List V} {us : List D}, HasL K H xs us → HasL K H xs.reverse us.reverse
  | _, _, .nil => .nil
  | _, _, .cons r t => by
    rw [List.reverse_cons, List.reverse_cons]
    exact t.reverse.append (.cons r .nil)
theorem rev_picked (z : Str) : (Builtin.Str.strSliceIndices none none (-1) z.length).filterMap (z.cps[·]?) = z.cps.toList.reverse := by
  have e : Builtin.Str.strSliceIndices none none (-1) z.length = (List.range z.length).map fun k => z.length - 1 - k := PySem.W.krv_sliceRange z.length
  rw [e, PySem.W.krv_range, List.filterMap_reverse]
  congr 1
  exact PySem.W.krv_all z.cps
def tRev (K : PySem.W.Frag) (te : TE) : TE := fun σ H Q => te σ H fun x H1 => (∃ a xs, x = .ref a ∧ SqL K H1 a xs ∧ ∀ p, H1 p = none → Q (.ref p) (upd H1 p (.lst xs.reverse))) ∨ ∃ z, x = .str z ∧ z.length ≤ sizeLine ∧ Q (.str (revS z)) H1
theorem pe_rev {e : Expr} {te : TE} {k : Nat} {p1 p2 p3 : Pos} (he : PE X e te) : PE X (.Subscript e (.Slice none none (some (.UnaryOp .USub (.Constant (.int 1) k p1) p2)) p3) pos) (tRev X.K te) := by
  refine ⟨fun pins s σ H Q I h => ?_⟩
  refine Subscript_ (thn (he.run pins s σ H _ I h) fun v s1 ⟨x, H1, I1, r1, q1⟩ => ?_)
  have hst : PO X (some (.UnaryOp .USub (.Constant (.int 1) k p1) p2)) (tPart (tUn (rU fun i => .int (-i)) (tC (.int 1)))) := po_some (pe_un un_neg pe_int)
  refine wpAny_Slice (thn (po_none.run pins s1 σ H1 (fun o H2 => o = none ∧ H2 = H1) I1 ⟨rfl, rfl⟩) fun vl s2 ⟨l, H2, I2, pl, el, e2⟩ => ?_)
  subst el e2
  refine thn (po_none.run pins s2 σ H2 (fun o H3 => o = none ∧ H3 = H2) I2 ⟨rfl, rfl⟩) fun vu s3 ⟨u, H3, I3, pu, eu, e3⟩ => ?_
  subst eu e3
  refine thn (hst.run pins s3 σ H3 (fun o H4 => o = some (-1) ∧ H4 = H3) I3 ⟨1, rfl, -1, rfl, rfl, rfl⟩) fun vs s4 ⟨o, H4, I4, ps, eo, e4⟩ => ?_
  subst eo e4
  have I5 : Inv X pins σ H4 { s4 with heap := s4.heap.push { cls := .type "slice", data := .fields #[vl, vu, vs] } } := I4.kept (t' := s4.toks) fun b ob q => Heap.get?_push_of_some _ q
  rcases q1 with ⟨a, xs, ex, hx, q⟩ | ⟨z, ex, hz, q⟩
  · cases ex
    cases r1
    obtain ⟨its, r, ht, hn⟩ := I5.list hx
    have hlen := r.length
    refine PyProof.Rows.tail_any (ops := [.ref a, .ref s4.heap.objs.size]) ht.isList.typeIs PySem.slot_list_getitem.lookup ?_ (by with_unfolding_all rfl)
    refine wpAny_getItem_list_slice ht.isList (Heap.IsSliceOf.new _ vl vu vs) pl pu ps (by decide) ?_ (by rw [List.size_toArray]; omega)
    rw [PySem.W.krv_pick]
    exact ⟨.ref _, _, I5.laid (t' := s4.toks) (o := .lst xs.reverse) (fun b ob q => Heap.get?_push_of_some _ q) (Nat.le_refl _) ⟨by rw [List.length_reverse]; exact hn, _, 0, r.reverse, Heap.get?_push_size _ rfl⟩, rfl, q _ (I5.hok.fresh (Nat.le_refl _))⟩
  · cases ex
    obtain ⟨t, rfl⟩ := r1
    obtain ⟨pl', rfl, el⟩ := IsPart.raw pl
    obtain ⟨pu', rfl, eu⟩ := IsPart.raw pu
    obtain ⟨ps', rfl, es⟩ := IsPart.raw ps
    have e1 : pl' = none := by cases pl' with | none => rfl | some p => cases el
    have e2 : pu' = none := by cases pu' with | none => rfl | some p => cases eu
    subst e1 e2
    refine PyProof.Rows.tail_any (ops := [.ref s4.heap.objs.size, .str z t]) (typeIs_str _ _ _) F.slot_str_getitem.lookup ?_ (by with_unfolding_all rfl)
    refine wpAny_getItem_str_slice (l := none) (u := none) (st := ps') ⟨_, Heap.get?_push_size _ rfl, rfl, rfl⟩ (by rw [es]; rfl) ?_
    unfold sliceMade slicePicked
    rw [es]
    rw [if_neg (by simp)]
    show Made.post (Made.str ⟨((Builtin.Str.strSliceIndices none none (-1) z.length).filterMap (z.cps[·]?)).toArray⟩) _ _
    rw [rev_picked]
    exact ⟨by show (List.toArray _).size ≤ sizeLine; rw [List.size_toArray, List.length_reverse, Array.length_toList]; exact hz, .str _, _, I5.tok _, ⟨_, rfl⟩, q⟩
theorem dRev {e : Expr} {we : WE} {k : Nat} {p1 p2 p3 : Pos} (he : PE X e (tG X.K F γ we)) : PE X (.Subscript e (.Slice none none (some (.UnaryOp .USub (.Constant (.int 1) k p1) p2)) p3) pos) (tG X.K F γ (wUn revD we)) := PE.imp (pe_rev he) fun σ H Q h => by
  obtain ⟨H0, env, c, P, R, q, k⟩ := h
  refine ⟨H0, env, c, _, R, q, fun d c1 v H1 H01 q1 s1 R1 h1 => ?_⟩
  cases h1 with
  | lst h1 h2 => exact .inl ⟨_, _, rfl, SqL.of (R1.core.sub _ _ h1), fun p hp => k _ _ _ _ _ q1 (s1.trans (Same.new (R1.core.sub.free hp))) (R1.alloc hp) (.lst upd_same (h2.reverse.mono (Same.new (R1.core.sub.free hp))))⟩
  | str z => exact .inr ⟨z, rfl, q1.1, k _ _ _ _ _ q1.2 s1 R1 (.str _)⟩
  | _ => exact (show False from q1).elim
end
/-! ### enumerate(text) -/
def Ites (z : Str) : It :=
  ⟨fun i _ => i < z.cps.size, fun i H v H' => ∃ T c, v = .ref T ∧ H T = none ∧ z.cps[i]? = some c ∧ H' = upd H T (.tup [.int (i : Nat), .str ⟨#[c]⟩]), fun i _ => i = z.cps.size⟩
theorem draws_str {prog : Program} {w : World} {A : Around} (hh : A.handled = none) (it : Addr) (x : Str) (t : Tok) :
    Draws prog w A it [it] x.cps.size (fun i v => ∃ c u, x.cps[i]? = some c ∧ v = Value.str ⟨#[c]⟩ u) (fun i h => h.IsStrIter it (strIterType x) x t i) := by
  unfold strIterType
  split
  · exact Draws.strAscii hh it x t
  · exact Draws.strWide hh it x t
theorem turn_enumS {P : Program} {w : World} {K : PySem.W.Frag} {elts : List Expr} {kk : Nat} {tpos : Pos} (z : Str) (t : Tok) (e it : Addr) :
    Turn P w K (.Tuple elts kk tpos) (Ites z) [e, it] e (fun i h => (∃ old, IsEnum h e it ((i : Nat) : Int) old) ∧ h.IsStrIter it (strIterType z) z t i ∧ e ≠ it) where
  mem := by simp
  obj := fun i h st b hb => by
    obtain ⟨⟨old, he⟩, ⟨o, ho, hc, hd⟩, _⟩ := st
    rcases (show b = e ∨ b = it by simpa using hb) with q | q
    · rw [q]; exact ⟨_, he, fun v r => nomatch r⟩
    · rw [q]; exact ⟨o, ho, fun v r => by rw [hd] at r; cases r⟩
  keep := fun i h h' st k => by
    obtain ⟨⟨old, he⟩, ⟨o, ho, hr⟩, hne⟩ := st
    exact ⟨⟨old, k e (by simp) _ he⟩, ⟨o, k it (by simp) o ho, hr⟩, hne⟩
  item := by
    intro X hP hw hK hc i pins s σ H E I hf st hg
    subst hP hw hK
    obtain ⟨⟨old, he⟩, hit, hne⟩ := st
    have hel : e < s.heap.objs.size := Heap.lt_size he
    refine wpAny_pyNext_enum_itemD (draws_str (prog := X.prog) (w := X.w) (A := X.A.in1) (I.ok.hd hc) it z t) he hit hg hne (by simpa using hne) fun x h' tk hx ho hit' hT hsz hk => ?_
    obtain ⟨c, u, hcx, rfl⟩ := hx
    refine ⟨_, rfl, wpAny_letOwnedTupleGo_enum (s := { s with heap := h', toks := tk + 1 }) ho fun h'' he' sb => ?_⟩
    have hT2 : h''.get? s.heap.objs.size = some { cls := .type "tuple", data := .seq #[.int i tk, .str ⟨#[c]⟩ u] } := (sb.2 _ (Nat.ne_of_gt hel)).trans hT
    have new : ObjOk X.prog X.w (upd H s.heap.objs.size (.tup [.int (i : Nat), .str ⟨#[c]⟩])) h'' s.heap.objs.size (.tup [.int (i : Nat), .str ⟨#[c]⟩]) :=
      ⟨by show 2 ≤ sizeLine; decide, [.int i tk, .str ⟨#[c]⟩ u], .cons ⟨_, rfl⟩ (.cons ⟨u, rfl⟩ .nil), ⟨_, hT2, rfl, _, rfl⟩⟩
    have I1 : Inv X pins σ (upd H s.heap.objs.size (.tup [.int (i : Nat), .str ⟨#[c]⟩])) { s with heap := h'', toks := tk + 1 } :=
      I.turnedNew (ch := [e, it]) (fun b ob hb q => (sb.2 b (fun r => hb (by simp [r]))).trans (hk b ob (fun r => hb (by simp [r])) (fun r => hb (by simp [r])) q)) hf (Nat.le_refl _) new
    have hil : it < s.heap.objs.size := by obtain ⟨_, q, _⟩ := hit; exact Heap.lt_size q
    refine ⟨.ref s.heap.objs.size, _, I1, rfl, ⟨_, c, rfl, I.hok.fresh (Nat.le_refl _), hcx, rfl⟩, ⟨⟨Value.str ⟨#[c]⟩ u, ?_⟩, ?_, hne⟩, fun b hb => ?_⟩
    · rw [show (((i + 1 : Nat) : Nat) : Int) = (i : Int) + 1 by omega]
      exact he'
    · obtain ⟨o, q, r⟩ := hit'
      exact ⟨o, (sb.2 it (Ne.symm hne)).trans q, r⟩
    · have hb' : b < s.heap.objs.size := by
        rcases (show b = e ∨ b = it by simpa using hb) with q | q
        · rw [q]; exact hel
        · rw [q]; exact hil
      rw [upd_ne (Nat.ne_of_lt hb')]
      exact (hf b hb).1
  done := by
    intro X hP hw hK hc i pins s σ H E I hf st hg
    subst hP hw hK
    obtain ⟨⟨old, he⟩, hit, hne⟩ := st
    obtain ⟨f0, f1, f2, f3, f4, f5⟩ := hf it (by simp)
    obtain rfl : i = z.cps.size := hg
    exact wpAny_pyNext_enum_endD (draws_str (prog := X.prog) (w := X.w) (A := X.A.in1) (I.ok.hd hc) it z t) he hit fun h' eb => ⟨rfl, I.turned (t' := s.toks) (fun b o hb q => eb b o hb q) f0 f1 f3 f4 f5⟩
  self := fun A i s Q E st h => by
    obtain ⟨⟨_, he⟩, _⟩ := st
    exact wpAny_pyIter_enum he h
/-- places and items -/
def enumD : Nat → List D → List D
  | _, [] => []
  | i, d :: ds => .tup [.int (i : Nat), d] :: enumD (i + 1) ds
theorem enumD_length : ∀ (i : Nat) (ds : List D), (enumD i ds).length = ds.length
  | _, [] => rfl
  | i, d :: ds => by rw [enumD, List.length_cons, List.length_cons, enumD_length]
theorem enumD_at : ∀ (k : Nat) (ds : List D) (i : Nat) (d : D), ds[i]? = some d → (enumD k ds)[i]? = some (.tup [.int ((k + i : Nat) : Int), d])
  | _, [], _, _, h => by simp at h
  | k, d :: ds, 0, e, h => by
    simp at h
    subst h
    rfl
  | k, d :: ds, i + 1, e, h => by
    have := enumD_at (k + 1) ds i e (by simpa using h)
    rw [show k + 1 + i = k + (i + 1) by omega] at this
    simpa [enumD] using this
theorem walkD_enum {K : PySem.W.Frag} {H0 : Hp} {a : Addr} {vs : List V} {ds : List D} (h1 : H0 a = some (.lst vs)) (h2 : HasL K H0 vs ds) : WalkD K (Ite K a) (enumD 0 ds) H0 := by
  have w : Walk (Ite K a) vs.length (fun H => SqL K H a vs) _ := walk_enum
  rw [h2.length, ← enumD_length 0 ds] at w
  refine w.mono (fun H s => SqL.of (s _ _ h1)) fun i H x H' hi s y => ?_
  obtain ⟨T, a, b, rfl, hT, e, e1, e2⟩ := y
  cases e1
  obtain ⟨d, hd, hx⟩ := h2.get e2
  exact ⟨_, enumD_at 0 ds i d hd, .inr ⟨T, _, b, _, d, rfl, hT, e, .int _, hx, by rw [Nat.zero_add]⟩⟩
theorem walkD_enumS {K : PySem.W.Frag} {H0 : Hp} {z : Str} : WalkD K (Ites z) (enumD 0 (signs z)) H0 := by
  have e : (enumD 0 (signs z)).length = z.cps.size := by rw [enumD_length, signs, List.length_map, Array.length_toList]
  refine ⟨fun i H hi _ => by rw [e] at hi; exact hi, fun H _ => e, fun i H v H' hi _ y => ?_⟩
  obtain ⟨T, c, rfl, hT, hc, e1⟩ := y
  refine ⟨_, enumD_at 0 (signs z) i (.str ⟨#[c]⟩) ?_, .inr ⟨T, _, _, _, _, rfl, hT, e1, .int _, .str _, by rw [Nat.zero_add]⟩⟩
  unfold signs
  rw [List.getElem?_map, Array.getElem?_toList, hc]
  rfl
section
variable {X : Cx} {F : Hp} {γ : Gm} {pos : Pos}
def wEnum (w : WE) : WI := fun env c P => w env c fun d c1 => match d with
  | .lst ds => P (enumD 0 ds) c1
  | .str z => P (enumD 0 (signs z)) c1
  | _ => False
theorem dpEnum {e : Expr} {we : WE} {p tpos : Pos} {elts : List Expr} {kk : Nat} (hm : X.mg "enumerate" = none) (he : PE X e (tG X.K F γ we)) (hg : Gl X "enumerate" := by rfl) (hs : starEach [e] X.env = [(false, eval e X.env)] := by rfl) :
    PI X (.Tuple elts kk tpos) (.Call (.Name "enumerate" p) [e] [] pos) (iG X.K F γ (wEnum we)) := by
  refine ⟨fun pins s σ H R I h => ?_⟩
  have h' : tG X.K F γ we σ H fun x H1 => (∃ a, x = .ref a ∧ (∃ xs, SqL X.K H1 a xs) ∧ R (Ite X.K a) H1) ∨ ∃ z, x = .str z ∧ R (Ites z) H1 := by
    obtain ⟨H0, env, c, P, RR, q, k⟩ := h
    refine ⟨H0, env, c, _, RR, q, fun d c1 v H1 H01 q1 s1 R1 h1 => ?_⟩
    cases h1 with
    | lst h1 h2 => exact .inl ⟨_, rfl, ⟨_, SqL.of (R1.core.sub _ _ h1)⟩, k _ _ _ _ _ q1 s1 R1 (walkD_enum h1 h2)⟩
    | str z => exact .inr ⟨z, rfl, k _ _ _ _ _ q1 s1 R1 walkD_enumS⟩
    | _ => exact (show False from q1).elim
  refine Call_ (ld_blt I hg hm PyProof.Rows.boot_enumerate (PyProof.Rows.callWith_type1 (thn ((pa_cons he pa_nil hs).run pos pins s σ H (fun vs H1 => ∃ x, vs = [x] ∧ ((∃ a, x = .ref a ∧ (∃ xs, SqL X.K H1 a xs) ∧ R (Ite X.K a) H1) ∨ ∃ z, x = .str z ∧ R (Ites z) H1)) I (h'.mono fun x H1 q => ⟨x, rfl, q⟩)) fun us s1 ⟨vs, H1, I1, r1, x, ex, q1⟩ => ?_) hs rfl))
  subst ex
  cases r1 with
  | cons r rr =>
    cases rr
    rcases q1 with ⟨a, rfl, ⟨xs, hq⟩, q⟩ | ⟨z, rfl, q⟩
    · cases r
      obtain ⟨its, rv, p', hz⟩ := I1.list hq
      refine call_enumerate_list p'.isList fun h' he hit hsz hk => wpAny_pyIter_enum he ?_
      have I2 : Inv X pins σ H1 { s1 with heap := h' } := I1.kept (t' := s1.toks) hk
      refine ⟨s1.heap.objs.size + 1, [s1.heap.objs.size + 1, s1.heap.objs.size], _, _, H1, rfl, I2, turn_enum a (s1.heap.objs.size + 1) s1.heap.objs.size, ⟨⟨.none, he⟩, hit, Nat.succ_ne_self _⟩, fun b hb => ?_, q⟩
      have hle : s1.heap.objs.size ≤ b := by
        rcases (show b = s1.heap.objs.size + 1 ∨ b = s1.heap.objs.size by simpa using hb) with w | w
        · rw [w]; exact Nat.le_add_right _ _
        · rw [w]; exact Nat.le_refl _
      exact I1.fpOk hle (I1.hok.fresh hle)
    · obtain ⟨t, rfl⟩ := r
      refine call_enumerate_str fun h' he hit hsz hk => wpAny_pyIter_enum he ?_
      have I2 : Inv X pins σ H1 { s1 with heap := h' } := I1.kept (t' := s1.toks) hk
      refine ⟨s1.heap.objs.size + 1, [s1.heap.objs.size + 1, s1.heap.objs.size], _, _, H1, rfl, I2, turn_enumS z t (s1.heap.objs.size + 1) s1.heap.objs.size, ⟨⟨.none, he⟩, hit, Nat.succ_ne_self _⟩, fun b hb => ?_, q⟩
      have hle : s1.heap.objs.size ≤ b := by
        rcases (show b = s1.heap.objs.size + 1 ∨ b = s1.heap.objs.size by simpa using hb) with w | w
        · rw [w]; exact Nat.le_add_right _ _
        · rw [w]; exact Nat.le_refl _
      exact I1.fpOk hle (I1.hok.fresh hle)
/-! ### range with a step, zip -/
def wRng3 (w u z : WE) : WI := fun env c P => w env c fun d c1 => u env c1 fun e c2 => z env c2 fun f c3 => ∃ (i j k : Int) (n : Nat), d = .int i ∧ e = .int j ∧ f = .int k ∧ RgC i j k n ∧ P (rangeC i k n) c3
theorem dpRng3 {tg a b d : Expr} {wa wb wd : WE} {p : Pos} (hm : X.mg "range" = none) (ha : PE X a (tG X.K F γ wa)) (hb : PE X b (tG X.K F γ wb)) (hd : PE X d (tG X.K F γ wd)) (hg : Gl X "range" := by rfl) (h1 : starEach [d] X.env = [(false, eval d X.env)] := by rfl)
    (h2 : starEach [b, d] X.env = (false, eval b X.env) :: starEach [d] X.env := by rfl) (h3 : starEach [a, b, d] X.env = (false, eval a X.env) :: starEach [b, d] X.env := by rfl) (hpl : (backTo pos (starEach [b, d] X.env)).any (·.1) = false := by rfl) :
    PI X tg (.Call (.Name "range" p) [a, b, d] [] pos) (iG X.K F γ (wRng3 wa wb wd)) :=
  PI.imp (pi_range3 hg hm (pa_cons ha (pa_cons hb (pa_cons hd pa_nil h1) h2) h3) h3 hpl) fun σ H R h => by
  obtain ⟨H0, env, c, P, RR, q, k⟩ := h
  refine ⟨H0, env, c, _, RR, q, fun d c1 v H1 H01 q1 s1 R1 h1 => ?_⟩
  refine ⟨H01, env, c1, _, R1, q1, fun e c2 u H2 H02 q2 s2 R2 h2 => ?_⟩
  refine ⟨H02, env, c2, _, R2, q2, fun f c3 z H3 H03 ⟨i, j, kk, n, e1, e2, e3, hb, q3⟩ s3 R3 h3 => ?_⟩
  subst e1 e2 e3
  cases h1
  cases h2
  cases h3
  exact ⟨i, j, kk, n, rfl, hb, k _ _ _ _ _ q3 ((s1.trans s2).trans s3) R3 walkD_rangeC⟩
def zipD : List D → List D → List D
  | d :: ds, e :: es => .tup [d, e] :: zipD ds es
  | _, _ => []
theorem zipD_length : ∀ (ds es : List D), (zipD ds es).length = min ds.length es.length
  | [], _ => by simp [zipD]
  | _ :: _, [] => by simp [zipD]
  | d :: ds, e :: es => by rw [zipD, List.length_cons, zipD_length]; simp only [List.length_cons]; omega
theorem zipD_at : ∀ (ds es : List D) (i : Nat) (d e : D), ds[i]? = some d → es[i]? = some e → (zipD ds es)[i]? = some (.tup [d, e])
  | [], _, _, _, _, h, _ => by simp at h
  | _ :: _, [], _, _, _, _, h => by simp at h
  | d :: ds, e :: es, 0, a, b, h, h' => by
    simp at h h'
    subst h h'
    rfl
  | d :: ds, e :: es, i + 1, a, b, h, h' => by
    have := zipD_at ds es i a b (by simpa using h) (by simpa using h')
    simpa [zipD] using this
def wZip (w u : WE) : WI := fun env c P => w env c fun d c1 => u env c1 fun e c2 => ∃ ds es, d = .lst ds ∧ e = .lst es ∧ P (zipD ds es) c2
theorem dpZip {a b : Expr} {wa wb : WE} {p tpos : Pos} {elts : List Expr} {kk : Nat} (hm : X.mg "zip" = none) (ha : PE X a (tG X.K F γ wa)) (hb : PE X b (tG X.K F γ wb)) (hg : Gl X "zip" := by rfl) (h1 : starEach [b] X.env = [(false, eval b X.env)] := by rfl)
    (h2 : starEach [a, b] X.env = (false, eval a X.env) :: starEach [b] X.env := by rfl) (hpl : (backTo pos (starEach [b] X.env)).any (·.1) = false := by rfl) :
    PI X (.Tuple elts kk tpos) (.Call (.Name "zip" p) [a, b] [] pos) (iG X.K F γ (wZip wa wb)) :=
  PI.imp (pi_zip hg hm (pa_cons ha (pa_cons hb pa_nil h1) h2) h2 hpl) fun σ H R h => by
  obtain ⟨H0, env, c, P, RR, q, k⟩ := h
  refine ⟨H0, env, c, _, RR, q, fun d c1 v H1 H01 q1 s1 R1 h1 => ?_⟩
  refine ⟨H01, env, c1, _, R1, q1, fun e c2 u H2 H02 ⟨ds, es, e1, e2, q2⟩ s2 R2 h2 => ?_⟩
  subst e1 e2
  cases h1 with
  | @lst a1 xs1 _ h1 h1' =>
    cases h2 with
    | @lst a2 xs2 _ h2 h2' =>
      have h3 := s2 _ _ h1
      have h3' := h1'.mono s2
      refine ⟨_, _, _, _, rfl, SqL.of (R2.core.sub _ _ h3), SqL.of (R2.core.sub _ _ h2), k _ _ _ _ _ q2 (s1.trans s2) R2 ?_⟩
      have w : Walk (Itz X.K a1 a2) (zipD ds es).length (fun H => SqL X.K H a1 xs1 ∧ SqL X.K H a2 xs2) (YPair (fun i => xs1[i]?) (fun i => xs2[i]?)) := walk_zip (n := (zipD ds es).length) (by rw [zipD_length, ← h3'.length, ← h2'.length])
      refine w.mono (fun H s => ⟨SqL.of (s _ _ h3), SqL.of (s _ _ h2)⟩) fun i H x H' hi s y => ?_
      obtain ⟨T, a, b, rfl, hT, e, e1, e2⟩ := y
      obtain ⟨d1, hd1, hx1⟩ := h3'.get e1
      obtain ⟨d2, hd2, hx2⟩ := h2'.get e2
      exact ⟨_, zipD_at ds es i d1 d2 hd1 hd2, .inr ⟨T, _, _, _, _, rfl, hT, e, hx1, hx2, rfl⟩⟩
end
theorem revD_s {z : Str} {P : D → Prop} : revD (.str z) P = (z.length ≤ sizeLine ∧ P (.str (revS z))) := rfl
theorem revD_l {ds : List D} {P : D → Prop} : revD (.lst ds) P = P (.lst ds.reverse) := rfl
end L2.DL

set_option Elab.async false
set_option linter.all false
set_option autoImplicit false
set_option maxRecDepth 100000
/-! Words of the signs 0 and 1, in plain Lean. -/
namespace L2.DL
open PySem
def step (d : Int) (c : Nat) : Int := if c = 49 then d + 1 else d - 1
/-- how deep behind the signs; none if it goes below -/
def run : Int → List Nat → Option Int
  | d, [] => some d
  | d, c :: cs => if step d c < 0 then none else run (step d c) cs
def is01 (cs : List Nat) : Bool := cs.all fun c => decide (c ∈ [48, 49])
def isW (z : Str) : Bool := is01 z.cps.toList && decide (2 ≤ z.length) && decide (z.length ≤ 400) && (run 0 z.cps.toList == some 0)
theorem run_append : ∀ (xs ys : List Nat) (d : Int), run d (xs ++ ys) = (run d xs).bind fun e => run e ys
  | [], _, _ => rfl
  | x :: xs, ys, d => by
    rw [List.cons_append, run, run]
    split
    · rfl
    · exact run_append xs ys _
theorem is01_append (xs ys : List Nat) : is01 (xs ++ ys) = (is01 xs && is01 ys) := List.all_append
theorem app_toList (x y : Str) : (x ++ y).cps.toList = x.cps.toList ++ y.cps.toList := by
  show (x.cps ++ y.cps).toList = _
  exact Array.toList_append
theorem len_toList (x : Str) : x.cps.toList.length = x.length := Array.length_toList
theorem signs_len (x : Str) : (signs x).length = x.length := by rw [signs, List.length_map]; exact len_toList x
theorem sv_01 {z : Str} (h : is01 z.cps.toList = true) : SV z := sv_iff.mpr fun c hc => by
  have := List.all_eq_true.mp h c hc
  simp at this
  omega
theorem run_one (c : Nat) : run 0 [c] ≠ some 0 := by
  unfold run step
  split
  · split <;> simp
    · unfold run; simp
  · simp
/-- only the signs 0 and 1 -/
def sg (d : D) : Bool := match d with | .str z => is01 z.cps.toList | _ => false
theorem bls_map {α : Type} {l : List α} {f : α → Bool} : D.bls (l.map fun a => D.bl (f a)) = some (l.map f) := by
  induction l with
  | nil => rfl
  | cons a l ih => simp only [List.map_cons, D.bls, ih, Option.map_some]
theorem sg_signs (z : Str) : ((signs z).map sg).all (fun b => b) = sg (.str z) := by
  rw [List.all_map, signs, List.all_map]
  show _ = is01 z.cps.toList
  unfold is01
  congr 1
  funext c
  simp [sg, is01]
/-- a sign that is neither 0 nor 1 -/
def badS : D → Bool | .str y => !strIn y "01" | _ => true
theorem bad_signs (z : Str) : ((signs z).filter badS).isEmpty = is01 z.cps.toList := by
  unfold signs
  induction z.cps.toList with
  | nil => rfl
  | cons c cs ih =>
    have e : strIn ⟨#[c]⟩ (Str.ofString "01") = decide (c ∈ [48, 49]) := rfl
    rw [List.map_cons, List.filter_cons]
    show (if (!strIn ⟨#[c]⟩ (Str.ofString "01")) = true then _ else _ : List D).isEmpty = _
    rw [e]
    unfold is01 at ih ⊢
    rw [List.all_cons]
    cases decide (c ∈ [48, 49])
    · rfl
    · simpa using ih
theorem forW_step {g : WG} {body : WS} {d : D} {ds : List D} {E : WEnds} {env : List Sl} {c : Nat} (h : ∀ K : List Sl → Nat → Prop, (∀ env c, forW g body ds E env c → K env c) → g d env fun env1 => body { nx := K, rt := E.rt, bk := E.nx, ct := K } env1 c) : forW g body (d :: ds) E env c := h _ fun _ _ h => h
theorem eq_sign {c k : Nat} : ((⟨#[c]⟩ : Str) == (⟨#[k]⟩ : Str)) = decide (c = k) := by
  rw [Bool.eq_iff_iff]
  simp
theorem eq_1 {c : Nat} : ((⟨#[c]⟩ : Str) == Str.ofString "1") = decide (c = 49) := eq_sign
theorem eq_0 {c : Nat} : ((⟨#[c]⟩ : Str) == Str.ofString "0") = decide (c = 48) := eq_sign
theorem step_1 {d : Int} : step d 49 = d + 1 := rfl
theorem step_n {d : Int} {c : Nat} (h : ¬ c = 49) : step d c = d - 1 := if_neg h
/-- is it a word -/
def wd : D → Bool | .str z => isW z | _ => false
/-- a text of code points, no longer than n -/
class Tx (n : outParam Nat) (z : Str) : Prop where
  len : z.length ≤ n
  sv : SV z
instance {n m : Nat} {x y : Str} [h : Tx n x] [k : Tx m y] : Tx (n + m) (x ++ y) := ⟨by rw [Str.length_append]; exact Nat.add_le_add h.len k.len, sv_app h.sv k.sv⟩
instance {n : Nat} {x : Str} {lo hi : Option Int} [h : Tx n x] : Tx n (cutS x lo hi) := ⟨Nat.le_trans cut_len h.len, sv_cut h.sv⟩
instance {n : Nat} {x : Str} [h : Tx n x] : Tx n (revS x) := ⟨by
  show (List.toArray _).size ≤ n
  rw [List.size_toArray, List.length_reverse, Array.length_toList]; exact h.len, sv_iff.mpr fun c hc => by
  have : c ∈ x.cps.toList := by simpa [revS] using hc
  exact sv_iff.mp h.sv c this⟩
theorem Tx.mono {n m : Nat} {x : Str} (h : Tx n x) (k : n ≤ m) : Tx m x := ⟨Nat.le_trans h.len k, h.sv⟩
theorem szT {a b : Nat} {x y : Str} [h : Tx a x] [k : Tx b y] (e : a + b ≤ 16777216) : x.length + y.length ≤ sizeLine := Nat.le_trans (Nat.add_le_add h.len k.len) e
theorem sz1 {a : Nat} {x : Str} [h : Tx a x] (e : a ≤ 16777216) : x.length ≤ sizeLine := Nat.le_trans h.len e
end L2.DL

set_option Elab.async false
set_option linter.all false
set_option autoImplicit false
set_option maxRecDepth 100000
/-! repr of data: by instance search. -/
namespace L2.DL
open PySem
/-- an int of less than 1920 bits -/
class Sm (i : Int) : Prop where
  h : i.natAbs.log2 < 1920
theorem Sm.of {i : Int} (h0 : -1000000000000000000000 < i) (h1 : i < 1000000000000000000000) : Sm i := ⟨log2_lt1 (Nat.lt_of_lt_of_le (show i.natAbs < 1000000000000000000000 by omega) (by decide))⟩
/-- repr's text is no longer than n, the depth at most m -/
class Rp (n m : outParam Nat) (d : D) : Prop where
  f : d.flat = true
  s : d.p.showable = true
  e : d.p.depth ≤ m
  l : d.p.shown.length ≤ n
class RpL (n m : outParam Nat) (ds : List D) : Prop where
  f : D.flats ds = true
  s : PyData.showableAll (D.ps ds) = true
  e : PyData.depthAll (D.ps ds) ≤ m
  l : ((PyData.shownAll (D.ps ds)).map (·.length)).sum + 2 * ds.length ≤ n
instance : Rp 4 0 .non := ⟨rfl, rfl, Nat.le_refl _, by decide⟩
instance {b : Bool} : Rp 5 0 (.bl b) := ⟨rfl, rfl, Nat.le_refl _, by cases b <;> decide⟩
instance {i : Int} [h : Sm i] : Rp 1921 0 (.int i) := ⟨rfl, decide_eq_true h.h, Nat.le_refl _, by
  show (Str.ofString (toString i)).length ≤ 1921
  rw [PySem.ofString_length]
  exact PySem.int_text_length_le (k := 1920) (by decide) h.h⟩
instance {n : Nat} {z : Str} [h : Tx n z] : Rp (10 * n + 2) 0 (.str z) := ⟨rfl, rfl, Nat.le_refl _, by
  have := StrLaws.reprText_len z fun c hc => Nat.lt_trans (sv_iff.mp h.sv c hc) (by decide)
  have h2 := h.len
  show (reprText z).length ≤ _
  omega⟩
instance : RpL 0 0 [] := ⟨rfl, rfl, Nat.le_refl _, Nat.le_refl _⟩
instance {n m n' m' : Nat} {d : D} {ds : List D} [h : Rp n m d] [k : RpL n' m' ds] : RpL (n + 2 + n') (max m m') (d :: ds) := ⟨by
  show (D.flat d && D.flats ds) = true
  rw [h.f, k.f]; rfl, by
  show (PyData.showable d.p && PyData.showableAll (D.ps ds)) = true
  rw [h.s, k.s]; rfl, by
  have h1 := h.e
  have h2 := k.e
  show max (PyData.depth d.p) (PyData.depthAll (D.ps ds)) ≤ max m m'
  omega, by
  have h1 := h.l
  have h2 := k.l
  show (d.p.shown.length :: (PyData.shownAll (D.ps ds)).map (·.length)).sum + 2 * (ds.length + 1) ≤ _
  rw [List.sum_cons]
  omega⟩
theorem ps_len (ds : List D) : (D.ps ds).length = ds.length := by
  induction ds with
  | nil => rfl
  | cons d ds ih => show (D.ps ds).length + 1 = _; rw [ih]; rfl
instance {n m : Nat} {ds : List D} [h : RpL n m ds] : Rp (n + 4) (m + 1) (.lst ds) := ⟨h.f, h.s, by
  have := h.e
  show PyData.depthAll (D.ps ds) + 1 ≤ m + 1
  omega, by
  have h1 := h.l
  have h2 := listText_len_le (PyData.shownAll (D.ps ds))
  have h3 := PyData.shownAll_length (D.ps ds)
  rw [ps_len] at h3
  show (listText (PyData.shownAll (D.ps ds))).length ≤ _
  omega⟩
instance {n m : Nat} {ds : List D} [h : RpL n m ds] : Rp (n + 4) (m + 1) (.tup ds) := ⟨h.f, h.s, by
  have := h.e
  show PyData.depthAll (D.ps ds) + 1 ≤ m + 1
  omega, by
  have h1 := h.l
  have h2 := tupleText_len_le (PyData.shownAll (D.ps ds))
  have h3 := PyData.shownAll_length (D.ps ds)
  rw [ps_len] at h3
  show (tupleText (PyData.shownAll (D.ps ds))).length ≤ _
  omega⟩
theorem reprD_of {d : D} {n m : Nat} {P : D → Prop} [h : Rp n m d] (hn : n ≤ 16777216) (hm : m ≤ 50) (k : P (.str d.p.shown)) : reprD d P :=
  ⟨h.f, h.s, Nat.le_trans h.e hm, Nat.le_trans h.l hn, k⟩
end L2.DL

set_option Elab.async false
set_option linter.all false
set_option autoImplicit false
set_option maxRecDepth 100000
/-! f-strings, several targets, lists that a slot owns: read, popped, stored into, made in tuples. -/
namespace L2.DL
open PySem PySem.Spec PyProof.Rows
section
variable {X : Cx} {F : Hp} {γ : Gm} {pos : Pos}
/-! ### f-strings -/
def fmtD : D1
  | .str y, P => y.length ≤ sizeLine ∧ P (.str y)
  | .int i, P => i.natAbs.log2 < 1920 ∧ P (.str (toString i))
  | _, _ => False
theorem dFmt {e : Expr} {we : WE} (he : PE X e (tG X.K F γ we)) : PE X (.FormattedValue e (-1) none pos) (tG X.K F γ (wUn fmtD we)) := PE.imp (pe_fmt he) fun σ H Q h => by
  obtain ⟨H0, env, c, P, R, q, k⟩ := h
  refine ⟨H0, env, c, _, R, q, fun d c1 v H1 H01 q1 s1 R1 h1 => ?_⟩
  cases h1 with
  | str z => exact .inl ⟨z, rfl, q1.1, k _ _ _ _ _ q1.2 s1 R1 (.str _)⟩
  | int i => exact .inr ⟨i, rfl, q1.1, k _ _ _ _ _ q1.2 s1 R1 (.str _)⟩
  | _ => exact (show False from q1).elim
def js : List WE → Str → List Sl → Nat → (Str → Nat → Prop) → Prop
  | [], acc, _, c, P => P acc c
  | w :: ws, acc, env, c, P => w env c fun d c1 => ∃ y, d = .str y ∧ (acc ++ y).length ≤ sizeLine ∧ js ws (acc ++ y) env c1 P
def wJs (ws : List WE) : WE := fun env c P => js ws Str.empty env c fun out c1 => P (.str out) c1
inductive PJd (X : Cx) (F : Hp) (γ : Gm) : List Expr → List WE → Prop where
  | nil : PJd X F γ [] []
  | cons {e : Expr} {t : WE} {es : List Expr} {ts : List WE} (h : PE X e (tG X.K F γ t)) (r : PJd X F γ es ts) : PJd X F γ (e :: es) (t :: ts)
theorem PJd.pj {es : List Expr} {ts : List WE} (h : PJd X F γ es ts) : PJ X es (ts.map (tG X.K F γ)) := by
  induction h with
  | nil => exact .nil
  | cons h _ ih => exact .cons h ih
theorem js_read {K : PySem.W.Frag} {σ : St} {env : List Sl} {Q : Str → Hp → Prop} {H00 : Hp} : ∀ (ts : List WE) (acc : Str) (H0 H : Hp) (c : Nat) (P : Str → Nat → Prop), Rep K F γ H0 H σ env c → Same H00 H0 → js ts acc env c P →
    (∀ out c' H' H0', P out c' → Same H00 H0' → Rep K F γ H0' H' σ env c' → Q out H') → tJs (ts.map (tG K F γ)) acc σ H Q
  | [], acc, H0, H, c, P, R, s, q, k => k _ _ _ _ q s R
  | w :: ws, acc, H0, H, c, P, R, s, q, k => by
    refine ⟨H0, env, c, _, R, q, fun d c1 v H1 H01 ⟨y, e, hz, q1⟩ s1 R1 h1 => ?_⟩
    subst e
    cases h1
    exact ⟨y, rfl, hz, js_read ws (acc ++ y) H01 H1 c1 P R1 (s.trans s1) q1 k⟩
theorem dJs {v1 v2 : Expr} {rest : List Expr} {ts : List WE} (h : PJd X F γ (v1 :: v2 :: rest) ts) : PE X (.JoinedStr (v1 :: v2 :: rest) pos) (tG X.K F γ (wJs ts)) := PE.imp (pe_joined h.pj) fun σ H Q h => by
  obtain ⟨H0, env, c, P, R, q, k⟩ := h
  exact js_read ts Str.empty H0 H c _ R (Same.refl _) q fun out c' H' H0' q1 s1 R1 => k _ _ _ _ _ q1 s1 R1 (.str _)
/-! ### t1 = t2 = e -/
def wAsg2 (w : WE) (g1 g2 : WG) : WS := fun E env c => w env c fun d c1 => g1 d env fun env1 => g2 d env1 fun env2 => E.nx env2 c1
theorem dsAsg2 {e : Expr} {we : WE} {t1 t2 : Expr} {g1 g2 : WG} {is js : List Nat} (he : PE X e (tG X.K F γ we)) (h1 : PG X t1 (tgG X.K F γ is g1)) (h2 : PG X t2 (tgG X.K F γ js g2))
    (ha : (assignEach [t1, t2] X.env).map (·.2) = [assign t1 X.env, assign t2 X.env] := by rfl) (hw : swappedStores [t1, t2] e X.env = pure none := by rfl) : PS X (.Assign [t1, t2] e pos) (tS X.K F γ (wAsg2 we g1 g2)) :=
  PS.imp (ps_asg2 he h1 h2 ha hw) fun E σ H h => by
  obtain ⟨H0, env, c, D, R, q, k1, k2, k3, k4⟩ := h
  refine ⟨H0, env, c, _, R, q, fun d c1 v H1 H01 q1 s1 R1 h1 => ⟨H01, env, c1, d, _, R1, h1, q1, fun σ' env' q2 R2 _ => ?_⟩⟩
  exact ⟨H01, env', c1, d, _, R2, h1, q2, fun σ2 env2 q3 R3 _ => k1 _ _ _ _ _ q3 s1 R3⟩
/-! ### own lists, read -/
variable {x : Str} {p p1 p2 apos cpos : Pos}
def wIxo (i : Nat) (w : WE) : WE := fun env c P => ∃ ds, env[i]? = some (.own ds) ∧ w env c fun j c1 => ∃ n d, j = .int n ∧ atI ds n = some d ∧ P d c1
theorem dLenO (i : Nat) {e : Expr} (hx : PE X e (tVar i)) (hm : X.mg "len" = none) (hg : Gl X "len" := by rfl) (hs : starEach [e] X.env = (false, eval e X.env) :: starEach [] X.env := by rfl) (hpl : (backTo pos (starEach [] X.env)).any (·.1) = false := by rfl) :
    PE X (.Call (.Name "len" p) [e] [] pos) (tG X.K F γ (wLenO i)) := PE.imp (pe_callB call_len_seq hg hm PySem.boot_len (pa_cons hx pa_nil hs) (he := hs) (hpl := hpl)) fun σ H Q h => by
  obtain ⟨H0, env, c, P, R, ⟨ds, e1, q⟩, k⟩ := h
  obtain ⟨a, vs, s1, a1, v1, z1⟩ := R.own_at e1
  refine ⟨.ref a, s1, a, vs, rfl, .inl (SqL.of a1), ?_⟩
  rw [v1.length]
  exact k _ _ _ _ _ q (Same.refl _) R (.int _)
theorem dIxo (i : Nat) {b : Expr} {wb : WE} {e : Expr} (hx : PE X e (tVar i)) (hb : PE X b (tG X.K F γ wb)) (hs : PlainIx b := by exact fun _ _ => rfl) : PE X (.Subscript e b pos) (tG X.K F γ (wIxo i wb)) := PE.imp (pe_ix ix_list hx hb hs) fun σ H Q h => by
  obtain ⟨H0, env, c, P, R, ⟨ds, e1, q⟩, k⟩ := h
  obtain ⟨a, vs, s1, a1, v1, z1⟩ := R.own_at e1
  refine ⟨.ref a, s1, H0, env, c, _, R, q, fun d c1 v H1 H01 q1 s2 R1 h1 => ?_⟩
  obtain ⟨n, d', e2, e3, q1⟩ := q1
  subst e2
  cases h1
  obtain ⟨a', vs', s1', a2, v2, z2⟩ := R1.own_at e1
  rw [s1] at s1'
  cases s1'
  obtain ⟨u, e4, hu⟩ := v2.atI e3
  exact ⟨a, vs', n, u, rfl, rfl, SqL.of a2, e4, k _ _ _ _ _ q1 s2 R1 hu⟩
/-! ### popped -/
theorem HasL.dropLast {K : PySem.W.Frag} {H : Hp} {vs : List V} {ds : List D} (h : HasL K H vs ds) : HasL K H vs.dropLast ds.dropLast := by
  rw [List.dropLast_eq_take, List.dropLast_eq_take, h.length]
  exact h.take _
def wPop (i : Nat) : WS := fun E env c => ∃ ds d, env[i]? = some (.own ds) ∧ ds.getLast? = some d ∧ E.nx (env.set i (.own ds.dropLast)) c
def wPopTo (j i : Nat) : WS := fun E env c => ∃ ds d, env[i]? = some (.own ds) ∧ ds.getLast? = some d ∧ E.nx ((env.set i (.own ds.dropLast)).set j (.val d)) c
theorem Rep.popO {K : PySem.W.Frag} {H0 H : Hp} {σ : St} {env : List Sl} {c : Nat} (R : Rep K F γ H0 H σ env c) {i : Nat} {ds : List D} {d : D} (e : env[i]? = some (.own ds)) (hd : ds.getLast? = some d) :
    ∃ a vs y, σ[i]? = some (some (.ref a)) ∧ H a = some (.lst vs) ∧ vs[vs.length - 1]? = some y ∧ Has K H0 y d ∧ Rep K F γ H0 (upd H a (.lst vs.dropLast)) σ (env.set i (.own ds.dropLast)) c := by
  obtain ⟨a, vs, s1, a1, v1, z1⟩ := R.own_at e
  rw [List.getLast?_eq_getElem?] at hd
  obtain ⟨y, hy, h2⟩ := v1.getD' hd
  rw [← v1.length] at hy
  exact ⟨a, vs, y, s1, a1, hy, h2, R.writeOwn s1 e (by rw [List.length_dropLast]; omega) v1.dropLast⟩
theorem dsPop (i : Nat) {e : Expr} (hx : PE X e (tVar i)) (hbase : attributeBase e "pop" X.env (eval e X.env) = eval e X.env := by rfl) (hline : (apos.endLine == cpos.line) = true := by rfl)
    (hsw : swapsWith (.Call (.Attribute e "pop" apos) [] [] cpos) none pos.line X.env = pure false := by rfl) : PS X (.Expr (.Call (.Attribute e "pop" apos) [] [] cpos) pos) (tS X.K F γ (wPop i)) :=
  PS.imp (ps_expr (pe_bm0 PySem.F.plainAttrs_list PySem.F.slot_list_pop PySem.F.type_list_pop mt_pop hx hbase hline) hsw) fun E σ H h => by
  obtain ⟨H0, env, c, D, R, ⟨ds, d, e1, e2, q⟩, k1, k2, k3, k4⟩ := h
  obtain ⟨a, vs, y, s1, a1, hy, h2, R2⟩ := R.popO e1 e2
  exact ⟨.ref a, s1, .inl ⟨rfl, vs, .inl (.inl a1)⟩, a, vs, y, rfl, rfl, a1, hy, k1 _ _ _ _ _ q (Same.refl _) R2⟩
theorem dsPopTo (j i : Nat) {y : Str} {e : Expr} {pos' : Pos} (hx : PE X e (tVar i)) (hN : X.N.Nodup) (hi : X.N[j]? = some y := by rfl) (hy : Loc X.env.scope y := by first | exact Or.inl rfl | exact Or.inr rfl)
    (hs : swapsWith (.Call (.Attribute e "pop" apos) [] [] cpos) (some (.Name y pos')) pos.line X.env = pure false := by rfl) (hf : X.fn y = true ∨ X.env.scope.names.lookup y = some .local := by first | exact .inl rfl | exact .inr rfl | assumption)
    (hbase : attributeBase e "pop" X.env (eval e X.env) = eval e X.env := by rfl) (hline : (apos.endLine == cpos.line) = true := by rfl) : PS X (.Assign [.Name y pos'] (.Call (.Attribute e "pop" apos) [] [] cpos) pos) (tS X.K F γ (wPopTo j i)) :=
  PS.imp (ps_set hN hi hy (pe_bm0 PySem.F.plainAttrs_list PySem.F.slot_list_pop PySem.F.type_list_pop mt_pop hx hbase hline) hs hf) fun E σ H h => by
  obtain ⟨H0, env, c, D, R, ⟨ds, d, e1, e2, q⟩, k1, k2, k3, k4⟩ := h
  obtain ⟨a, vs, y, s1, a1, hy, h2, R2⟩ := R.popO e1 e2
  exact ⟨.ref a, s1, .inl ⟨rfl, vs, .inl (.inl a1)⟩, a, vs, y, rfl, rfl, a1, hy, k1 _ _ _ _ _ q (Same.refl _) (R2.setVal h2 j)⟩
/-! ### stored into -/
def wSetO' (i : Nat) (wi w : WE) : WS := fun E env c => w env c fun d c1 => ∃ ds, env[i]? = some (.own ds) ∧ wi env c1 fun j c2 => ∃ n k, j = .int n ∧ ixN ds.length n = some k ∧ E.nx (env.set i (.own (ds.set k d))) c2
theorem dsSetIt (i : Nat) {ex ei e : Expr} {wi we : WE} {p3 : Pos} (hx : PE X ex (tVar i)) (hi : PE X ei (tG X.K F γ wi)) (he : PE X e (tG X.K F γ we)) (hs : swapsWithSole [.Subscript ex ei p3] e pos.line X.env = pure false := by rfl)
    (hw : swappedStores [.Subscript ex ei p3] e X.env = pure none := by rfl) (h1 : (assignEach [.Subscript ex ei p3] X.env).map (·.2) = [assign (.Subscript ex ei p3) X.env] := by rfl)
    (ha : ∀ v, assign (.Subscript ex ei p3) X.env v = (do
      let ov ← holding [v] (eval ex X.env)
      let iv ← holding [v, ov] (eval ei X.env)
      standAt p3
      holding [v, ov, iv] (setItem ov iv v)
      release [v, ov, iv] []) := by intro _; rfl) : PS X (.Assign [.Subscript ex ei p3] e pos) (tS X.K F γ (wSetO' i wi we)) :=
  PS.imp (ps_asg he (pg_sub hx hi set_list ha) hs hw h1) fun E σ H h => by
  obtain ⟨H0, env, c, D, R, q, k1, k2, k3, k4⟩ := h
  refine ⟨H0, env, c, _, R, q, fun d c1 v H1 H01 ⟨ds, e1, q1⟩ s1 R1 h1 => ?_⟩
  obtain ⟨a, vs, a0, a1, v1, z1⟩ := R1.own_at e1
  refine ⟨.ref a, a0, H01, env, c1, _, R1, q1, fun d2 c2 v2 H2 H02 q2 s2 R2 h2 => ?_⟩
  obtain ⟨n, k, e2, e3, q2⟩ := q2
  subst e2
  cases h2
  obtain ⟨a', vs', a0', a2, v2', z2⟩ := R2.own_at e1
  rw [a0] at a0'
  cases a0'
  refine ⟨a, vs', n, k, rfl, rfl, a2, by rw [v2'.length]; exact e3, k1 _ _ _ _ _ q2 (s1.trans s2) (R2.writeOwn a0 e1 (by rw [List.length_set]; exact z2) (v2'.set (h1.mono s2) k))⟩
end
/-! ### own lists made in a tuple of values -/
inductive Ar where | v (d : D) | o (t : OT)
abbrev WAO := List Sl → Nat → (List Ar → Nat → Prop) → Prop
def wNilO : WAO := fun _ c P => P [] c
def wConsV (a : WE) (r : WAO) : WAO := fun env c P => a env c fun d c1 => r env c1 fun as c2 => P (.v d :: as) c2
def wConsO (a : WI) (r : WAO) : WAO := fun env c P => a env c fun ds c1 => r env c1 fun as c2 => P (.o (.l ds) :: as) c2
/-- values beside slots -/
inductive ArL (K : PySem.W.Frag) (F : Hp) (γ : Gm) (H0 H : Hp) (σ : St) (env : List Sl) : List V → List Ar → Prop
  | nil : ArL K F γ H0 H σ env [] []
  | v {x : V} {d : D} {vs : List V} {as : List Ar} : Has K H0 x d → ArL K F γ H0 H σ env vs as → ArL K F γ H0 H σ env (x :: vs) (.v d :: as)
  | o {a : Addr} {ds : OT} {vs : List V} {as : List Ar} : Own K F γ H0 H σ env a ds → (∀ (j : Nat) (es : OT), vs[j]? = some (.ref a) → as[j]? = some (.o es) → False) → ArL K F γ H0 H σ env vs as → ArL K F γ H0 H σ env (.ref a :: vs) (.o ds :: as)
section
variable {K : PySem.W.Frag} {F : Hp} {γ : Gm} {H0 H : Hp} {σ : St} {env : List Sl} {c : Nat}
theorem ArL.outFrame {a : Addr} {o : HO} {vs : List V} {as : List Ar} (h : ArL K (upd F a o) γ H0 H σ env vs as) (fa : F a = none) : ArL K F γ H0 H σ env vs as := by
  induction h with
  | nil => exact .nil
  | v h _ ih => exact .v h ih
  | o O n _ ih =>
    refine .o ⟨O.g, ?_, O.z, O.h, O.apart⟩ n ih
    have := O.f
    by_cases q : ‹Addr› = a
    · rw [q]; exact fa
    · rwa [upd_ne q] at this
theorem ArL.notIn {a : Addr} {o : HO} {vs : List V} {as : List Ar} (h : ArL K (upd F a o) γ H0 H σ env vs as) : ∀ (j : Nat) (es : OT), vs[j]? = some (.ref a) → as[j]? = some (.o es) → False := by
  induction h with
  | nil => intro j es h; simp at h
  | v h _ ih =>
    intro j es h1 h2
    cases j with
    | zero => simp at h2
    | succ j => exact ih j es (by simpa using h1) (by simpa using h2)
  | o O n _ ih =>
    intro j es h1 h2
    cases j with
    | zero =>
      simp at h1
      have := O.f
      rw [h1, upd_same] at this
      cases this
    | succ j => exact ih j es (by simpa using h1) (by simpa using h2)
end
def tAO (K : PySem.W.Frag) (F : Hp) (γ : Gm) (w : WAO) : TA := fun σ H Q => ∃ H0 env c P, Rep K F γ H0 H σ env c ∧ w env c P ∧
  ∀ as c' vs H' H0', P as c' → Same H0 H0' → Rep K F γ H0' H' σ env c' → ArL K F γ H0' H' σ env vs as → Q vs H'
section
variable {X : Cx} {F : Hp} {γ : Gm} {pos : Pos} {a : Expr} {es : List Expr} {wr : WAO}
theorem dxNil : PA X [] (tAO X.K F γ wNilO) := PA.imp pa_nil fun σ H Q h => by
  obtain ⟨H0, env, c, P, R, q, k⟩ := h
  exact k [] c [] H H0 q (Same.refl _) R .nil
theorem dxV {wa : WE} (ha : PE X a (tG X.K F γ wa)) (hr : PA X es (tAO X.K F γ wr)) (hs : starEach (a :: es) X.env = (false, eval a X.env) :: starEach es X.env := by rfl) : PA X (a :: es) (tAO X.K F γ (wConsV wa wr)) := PA.imp (pa_cons ha hr hs) fun σ H Q h => by
  obtain ⟨H0, env, c, P, R, q, k⟩ := h
  exact ⟨H0, env, c, _, R, q, fun d c1 v H1 H01 q1 s1 R1 h1 => ⟨H01, env, c1, _, R1, q1, fun as c2 vs H2 H02 q2 s2 R2 h2 => k _ _ _ _ _ q2 (s1.trans s2) R2 (.v (h1.mono s2) h2)⟩⟩
theorem dxO {wa : WI} (ha : PE X a (tO X.K F γ wa)) (hr : ∀ F', PA X es (tAO X.K F' γ wr)) (hs : starEach (a :: es) X.env = (false, eval a X.env) :: starEach es X.env := by rfl) : PA X (a :: es) (tAO X.K F γ (wConsO wa wr)) := by
  have hr' : PA X es (fun σ H Q => ∃ F', tAO X.K F' γ wr σ H Q) := ⟨fun pos pins s σ H Q I ⟨F', h⟩ => (hr F').run pos pins s σ H Q I h⟩
  refine PA.imp (pa_cons ha hr' hs) fun σ H Q h => ?_
  obtain ⟨H0, env, c, P, R, q, k⟩ := h
  refine ⟨H0, env, c, _, R, q, fun ds c1 a H1 H01 q1 s1 R1 O => ?_⟩
  obtain ⟨_, hv, vs, rfl, hz, hl⟩ := O.h
  refine ⟨upd F a (.lst vs), H01, env, c1, _, R1.intoFrame O.g O.z hv noTab_lst O.apart, q1, fun as c2 us H2 H02 q2 s2 R2 A2 => ?_⟩
  obtain ⟨h7, z7⟩ := R2.core.frm a _ upd_same
  exact k _ _ _ _ _ q2 (s1.trans s2) (R2.outFrame O.f) (.o ⟨O.g, O.f, z7, ⟨_, h7, vs, rfl, hz, hl.mono s2⟩, O.apart⟩ A2.notIn (A2.outFrame O.f))
end
/-- slots stored one behind the other -/
def setA (env : List Sl) : List Nat → List Ar → List Sl
  | i :: is, .v d :: as => setA (env.set i (.val d)) is as
  | i :: is, .o ds :: as => setA (env.set i (.ow ds)) is as
  | _, _ => env
def setV (σ : St) : List Nat → List V → St
  | i :: is, v :: vs => setV (σ.set i (some v)) is vs
  | _, _ => σ
section
variable {K : PySem.W.Frag} {F : Hp} {γ : Gm} {H0 H : Hp} {c : Nat}
theorem Own.set {σ : St} {env : List Sl} {a : Addr} {ds : OT} (O : Own K F γ H0 H σ env a ds) {i : Nat} {o : Option V} {sl : Sl} (h : ∀ es, o = some (.ref a) → sl = .ow es → False) : Own K F γ H0 H (σ.set i o) (env.set i sl) a ds :=
  ⟨O.g, O.f, O.z, O.h, fun j es h1 h2 => by
    rcases set_get h1 with ⟨e1, e2⟩ | ⟨e1, e2⟩
    · rcases set_get h2 with ⟨e3, e4⟩ | ⟨e3, e4⟩
      · exact h es e2 e4
      · exact e3 e1
    · rcases set_get h2 with ⟨e3, e4⟩ | ⟨e3, e4⟩
      · exact e1 e3
      · exact O.apart j es e2 e4⟩
theorem ArL.set {σ : St} {env : List Sl} {vs : List V} {as : List Ar} (A : ArL K F γ H0 H σ env vs as) {i : Nat} {o : Option V} {sl : Sl} (h : ∀ (j : Nat) (a : Addr) (es fs : OT), vs[j]? = some (.ref a) → as[j]? = some (.o es) → o = some (.ref a) → sl = .ow fs → False) : ArL K F γ H0 H (σ.set i o) (env.set i sl) vs as := by
  induction A with
  | nil => exact .nil
  | v hh _ ih => exact .v hh (ih fun j a es fs h1 h2 => h (j + 1) a es fs (by simpa using h1) (by simpa using h2))
  | o O n _ ih => exact .o (O.set fun es e1 e2 => h 0 _ _ es rfl rfl e1 e2) n (ih fun j a es fs h1 h2 => h (j + 1) a es fs (by simpa using h1) (by simpa using h2))
theorem Rep.setA : ∀ (is : List Nat) {σ : St} {env : List Sl} {vs : List V} {as : List Ar}, Rep K F γ H0 H σ env c → ArL K F γ H0 H σ env vs as → is.length = vs.length → Rep K F γ H0 H (setV σ is vs) (DL.setA env is as) c
  | [], _, _, [], _, R, A, _ => by cases A; exact R
  | [], _, _, _ :: _, _, _, _, e => by cases e
  | _ :: _, _, _, [], _, _, _, e => by cases e
  | i :: is, σ, env, x :: vs, _, R, A, e => by
    cases A with
    | v h A => exact Rep.setA is (R.setVal h i) (A.set fun j a es fs _ _ _ q => by cases q) (Nat.succ.inj e)
    | o O n A => exact Rep.setA is (R.setOwn O i) (A.set fun j a es fs h1 h2 q _ => by cases q; exact n j es h1 h2) (Nat.succ.inj e)
theorem ArL.length {σ : St} {env : List Sl} {vs : List V} {as : List Ar} (A : ArL K F γ H0 H σ env vs as) : vs.length = as.length := by
  induction A with
  | nil => rfl
  | v _ _ ih => rw [List.length_cons, List.length_cons, ih]
  | o _ _ _ ih => rw [List.length_cons, List.length_cons, ih]
theorem Own.heap {σ : St} {env : List Sl} {a p : Addr} {ds : OT} {o : HO} (O : Own K F γ H0 H σ env a ds) (hp : H p = none) : Own K F γ H0 (upd H p o) σ env a ds := by
  obtain ⟨vs, hv, q⟩ := O.h
  exact ⟨O.g, O.f, O.z, ⟨vs, by rw [upd_ne (ne_of_none hv hp)]; exact hv, q⟩, O.apart⟩
theorem ArL.heap {σ : St} {env : List Sl} {p : Addr} {o : HO} {vs : List V} {as : List Ar} (A : ArL K F γ H0 H σ env vs as) (hp : H p = none) : ArL K F γ H0 (upd H p o) σ env vs as := by
  induction A with
  | nil => exact .nil
  | v h _ ih => exact .v h ih
  | o O n _ ih => exact .o (O.heap hp) n ih
end
def wParO (is : List Nat) (w : WAO) : WS := fun E env c => w env c fun as c1 => as.length = is.length ∧ E.nx (setA env is as) c1
section
variable {X : Cx} {F : Hp} {γ : Gm} {pos : Pos} {wa : WAO}
theorem dsPar2O (i j : Nat) {x y : Str} {a b : Expr} {px py pt : Pos} {kt k2 pt2} (ha : PA X [a, b] (tAO X.K F γ wa)) (hN : X.N.Nodup) (hw : swappedStores [.Tuple [.Name x px, .Name y py] kt pt] (.Tuple [a, b] k2 pt2) X.env = pure (some [x, y]) := by rfl)
    (hc : X.calm = true := by rfl) (hi : X.N[i]? = some x := by rfl) (hj : X.N[j]? = some y := by rfl) (hij : i ≠ j := by decide)
    (hx : X.env.scope.names.lookup x = some .local := by rfl) (hy : X.env.scope.names.lookup y = some .local := by rfl)
    (hs : swapsWithSole [.Tuple [.Name x px, .Name y py] kt pt] (.Tuple [a, b] k2 pt2) pos.line X.env = pure false := by rfl) :
    PS X (.Assign [.Tuple [.Name x px, .Name y py] kt pt] (.Tuple [a, b] k2 pt2) pos) (tS X.K F γ (wParO [i, j] wa)) := PS.imp (ps_par hc hN hi hj hij hx hy ha hw hs) fun E σ H h => by
  obtain ⟨H0, env, c, D, R, q, k1, k2, k3, k4⟩ := h
  refine ⟨H0, env, c, _, R, q, fun as c1 vs H1 H01 ⟨e, q1⟩ s1 R1 A => ?_⟩
  have R2 := Rep.setA [i, j] R1 A (by rw [A.length, e])
  match vs, A.length, R2 with
  | [v, w], _, R2 => exact ⟨v, w, rfl, k1 _ _ _ _ _ q1 s1 R2⟩
  | [], l, _ => rw [e] at l; cases l
  | [_], l, _ => rw [e] at l; cases l
  | _ :: _ :: _ :: _, l, _ => rw [e] at l; cases l
theorem dsPar3O (i j l : Nat) {x y z : Str} {a b e : Expr} {px py pz pt : Pos} {kt k2 pt2} (ha : PA X [a, b, e] (tAO X.K F γ wa)) (hN : X.N.Nodup) (hw : swappedStores [.Tuple [.Name x px, .Name y py, .Name z pz] kt pt] (.Tuple [a, b, e] k2 pt2) X.env = pure (some [x, y, z]) := by rfl)
    (hc : X.calm = true := by rfl) (hi : X.N[i]? = some x := by rfl) (hj : X.N[j]? = some y := by rfl) (hl : X.N[l]? = some z := by rfl) (hij : i ≠ j := by decide) (hil : i ≠ l := by decide) (hjl : j ≠ l := by decide)
    (hx : X.env.scope.names.lookup x = some .local := by rfl) (hy : X.env.scope.names.lookup y = some .local := by rfl) (hz : X.env.scope.names.lookup z = some .local := by rfl)
    (hs : swapsWithSole [.Tuple [.Name x px, .Name y py, .Name z pz] kt pt] (.Tuple [a, b, e] k2 pt2) pos.line X.env = pure false := by rfl) :
    PS X (.Assign [.Tuple [.Name x px, .Name y py, .Name z pz] kt pt] (.Tuple [a, b, e] k2 pt2) pos) (tS X.K F γ (wParO [i, j, l] wa)) := PS.imp (ps_par3 hc hN hi hj hl hij hil hjl hx hy hz ha hw hs) fun E σ H h => by
  obtain ⟨H0, env, c, D, R, q, k1, k2, k3, k4⟩ := h
  refine ⟨H0, env, c, _, R, q, fun as c1 vs H1 H01 ⟨e, q1⟩ s1 R1 A => ?_⟩
  have R2 := Rep.setA [i, j, l] R1 A (by rw [A.length, e])
  match vs, A.length, R2 with
  | [u, v, w], _, R2 => exact ⟨u, v, w, rfl, k1 _ _ _ _ _ q1 s1 R2⟩
  | [], l, _ => rw [e] at l; cases l
  | [_], l, _ => rw [e] at l; cases l
  | [_, _], l, _ => rw [e] at l; cases l
  | _ :: _ :: _ :: _ :: _, l, _ => rw [e] at l; cases l
/-- targets that are names -/
def tgN (is : List Nat) : TGs := fun vs σ H Q => vs.length = is.length ∧ Q (setV σ is vs) H
theorem dnNil : PGs X [] (tgN []) := PGs.imp pgs_nil fun v σ H Q h => by
  obtain ⟨e, q⟩ := h
  cases v with
  | nil => exact ⟨rfl, q⟩
  | cons _ _ => cases e
theorem dnCons (i : Nat) {is : List Nat} {x : Str} {p : Pos} {es : List Expr} (h2 : PGs X es (tgN is)) (hN : X.N.Nodup) (hi : X.N[i]? = some x := by rfl) (hx : Loc X.env.scope x := by first | exact Or.inl rfl | exact Or.inr rfl) (hf : X.fn x = true ∨ X.env.scope.names.lookup x = some .local := by first | exact .inl rfl | exact .inr rfl | assumption)
    (hs : (assignEach (.Name x p :: es) X.env).map (·.2) = assign (.Name x p) X.env :: (assignEach es X.env).map (·.2) := by rfl) : PGs X (.Name x p :: es) (tgN (i :: is)) := PGs.imp (pgs_cons (pg_name hN hi hx hf) h2 hs) fun v σ H Q h => by
  obtain ⟨e, q⟩ := h
  cases v with
  | nil => cases e
  | cons x vs => exact ⟨x, vs, rfl, Nat.succ.inj e, q⟩
theorem dsTupO (is : List Nat) {tgs es : List Expr} {k k2 : Nat} {p p2 : Pos} (ha : PA X es (tAO X.K F γ wa)) (hg : PGs X tgs (tgN is)) (hs : swapsWithSole [.Tuple tgs k p] (.Tuple es k2 p2) pos.line X.env = pure false := by rfl) (hw : swappedStores [.Tuple tgs k p] (.Tuple es k2 p2) X.env = pure none := by rfl)
    (h1 : (assignEach [.Tuple tgs k p] X.env).map (·.2) = [assign (.Tuple tgs k p) X.env] := by rfl) (hc : X.calm = true := by rfl) (hl : is.length ≤ sizeLine := by decide)
    (hn : (assignEach tgs X.env).length = is.length := by rfl) (hst : (assignEach tgs X.env).findIdx? (·.1) = none := by rfl) :
    PS X (.Assign [.Tuple tgs k p] (.Tuple es k2 p2) pos) (tS X.K F γ (wParO is wa)) := PS.imp (ps_asg (pe_tup ha) (pg_tup hc hg hn hst) hs hw h1) fun E σ H h => by
  obtain ⟨H0, env, c, D, R, q, k1, k2, k3, k4⟩ := h
  refine ⟨H0, env, c, _, R, q, fun as c1 vs H1 H01 ⟨e, q1⟩ s1 R1 A => ?_⟩
  have hv : vs.length = is.length := by rw [A.length, e]
  refine ⟨by rw [hv]; exact hl, fun p hp => ⟨p, vs, rfl, SqT.of upd_same, hv, hv, ?_⟩⟩
  exact k1 _ _ _ _ _ q1 s1 (Rep.setA is (R1.allocOwn hp) (A.heap hp) hv.symm)
end
end L2.DL

set_option Elab.async false
set_option linter.all false
set_option autoImplicit false
set_option maxRecDepth 100000
/-! Texts of the signs 0 and 1, as lists of truths. -/
namespace L2.DL
open PySem PySem.Spec
def bit (b : Bool) : Nat := if b then 49 else 48
/-- the text of some signs -/
def S (l : List Bool) : Str := ⟨(l.map bit).toArray⟩
theorem S_tl (l : List Bool) : (S l).cps.toList = l.map bit := by simp [S]
theorem bit_inj {a b : Bool} (h : bit a = bit b) : a = b := by cases a <;> cases b <;> first | rfl | cases h
theorem map_bit_inj : ∀ {a b : List Bool}, a.map bit = b.map bit → a = b
  | [], [], _ => rfl
  | [], _ :: _, h => by cases h
  | _ :: _, [], h => by cases h
  | x :: xs, y :: ys, h => by
    rw [List.map_cons, List.map_cons] at h
    injection h with h1 h2
    rw [bit_inj h1, map_bit_inj h2]
theorem S_inj {a b : List Bool} (h : S a = S b) : a = b := map_bit_inj (by rw [← S_tl, ← S_tl, h])
theorem S_iff {a b : List Bool} : S a = S b ↔ a = b := ⟨S_inj, fun h => by rw [h]⟩
theorem S_beq (a b : List Bool) : (S a == S b) = (a == b) := by
  rw [Bool.eq_iff_iff, beq_iff_eq, beq_iff_eq]; exact S_iff
theorem S_len (a : List Bool) : (S a).length = a.length := by
  show (List.toArray _).size = _
  rw [List.size_toArray, List.length_map]
theorem S_app (a b : List Bool) : S a ++ S b = S (a ++ b) := by
  show Str.mk ((a.map bit).toArray ++ (b.map bit).toArray) = Str.mk ((a ++ b).map bit).toArray
  congr 1
  simp
theorem lit_e : Str.ofString "" = S [] := rfl
theorem lit_em : Str.empty = S [] := rfl
theorem lit_1 : Str.ofString "1" = S [true] := rfl
theorem lit_0 : Str.ofString "0" = S [false] := rfl
theorem lit_10 : Str.ofString "10" = S [true, false] := rfl
theorem lit_01 : Str.ofString "01" = S [false, true] := rfl
theorem lit_110 : Str.ofString "110" = S [true, true, false] := rfl
theorem lit_101 : Str.ofString "101" = S [true, false, true] := rfl
theorem sg_of (b : Bool) : (⟨#[bit b]⟩ : Str) = S [b] := rfl
theorem S_sv (l : List Bool) : SV (S l) := sv_iff.mpr fun c hc => by
  rw [S_tl] at hc
  obtain ⟨b, _, rfl⟩ := List.mem_map.mp hc
  cases b <;> decide
theorem S_tx {n : Nat} {l : List Bool} (h : l.length ≤ n) : Tx n (S l) := ⟨by rw [S_len]; exact h, S_sv l⟩
theorem S_cut (l : List Bool) (lo hi : Option Int) : cutS (S l) lo hi = S (cutD l lo hi) := by
  unfold cutS cutD S
  simp [Str.length, List.map_take, List.map_drop]
theorem S_rev (l : List Bool) : revS (S l) = S l.reverse := by
  unfold revS S
  simp
def sgn (b : Bool) : D := .str (S [b])
theorem S_signs (l : List Bool) : signs (S l) = l.map sgn := by
  unfold signs
  rw [S_tl, List.map_map]
  rfl
theorem flat_rep {α β : Type} (f : α → β) (l : List α) : ∀ n : Nat, (List.replicate n (l.map f)).flatten = ((List.replicate n l).flatten).map f
  | 0 => rfl
  | n + 1 => by rw [List.replicate_succ, List.replicate_succ, List.flatten_cons, List.flatten_cons, List.map_append, flat_rep f l n]
theorem S_mul (l : List Bool) (n : Int) : smul (S l) n = S (List.replicate n.toNat l).flatten := by
  unfold smul
  rw [S_tl, flat_rep]
  rfl
theorem S_join : ∀ (ls : List (List Bool)), Txt.join (S []) (ls.map S) = S ls.flatten := by
  intro ls
  have e : Txt.join (S []) (ls.map S) = Str.join (S []) (ls.map S) := StrLaws.glued_eq_join _ _
  rw [e]
  clear e
  induction ls with
  | nil => rfl
  | cons x r ih =>
    cases r with
    | nil => show S x = _; rw [List.flatten_cons, List.flatten_nil, List.append_nil]
    | cons y r =>
      show S x ++ S [] ++ Str.join (S []) ((y :: r).map S) = _
      rw [ih, S_app, S_app, List.append_nil, ← List.flatten_cons]
theorem strs_S (ls : List (List Bool)) : D.strs (ls.map fun l => .str (S l)) = some (ls.map S) := by
  have := strs_map (zs := ls.map S)
  rw [List.map_map] at this
  exact this
/-! ### signs counted -/
section
open Builtin.Str StrLaws
theorem occ_one {n : Nat} (x : Str) (c : Nat) : ∀ (k a free : Nat) (found : Array Nat), a + k = x.length + 1 → free ≤ a → found.size ≤ a → x.length < n →
    (forIn (List.range' a k) (found, free) (occBody x ⟨#[c]⟩ x.length n)).run.fst.toList = found.toList ++ (List.range' a k).filter fun i => x.cps.toList[i]? == some c
  | 0, a, free, found, _, _, _, _ => by simp
  | k + 1, a, free, found, hk, hf, hs, hn => by
    rw [List.range'_succ, List.forIn_cons, List.filter_cons]
    have key := subAt_one x c a
    unfold occBody
    by_cases h : x.cps.toList[a]? = some c
    · obtain ⟨h1, h2⟩ := key.mpr h
      have hc : ((found.size < n ∧ free ≤ a) ∧ a + (⟨#[c]⟩ : Str).length ≤ x.length) ∧ subAt x ⟨#[c]⟩ a = true := ⟨⟨⟨by omega, hf⟩, h1⟩, h2⟩
      rw [if_pos hc]
      have hb : (x.cps.toList[a]? == some c) = true := by rw [h]; exact beq_self_eq_true _
      rw [if_pos hb]
      have := occ_one x c k (a + 1) (a + 1) (found.push a) (by omega) (Nat.le_refl _) (by rw [Array.size_push]; omega) hn
      rw [Array.toList_push, List.append_assoc] at this
      exact this
    · have hc : ¬ (((found.size < n ∧ free ≤ a) ∧ a + (⟨#[c]⟩ : Str).length ≤ x.length) ∧ subAt x ⟨#[c]⟩ a = true) := fun q => h (key.mp ⟨q.1.2, q.2⟩)
      rw [if_neg hc]
      have hb : ¬ (x.cps.toList[a]? == some c) = true := by simpa using h
      rw [if_neg hb]
      exact occ_one x c k (a + 1) free found (by omega) (by omega) (by omega) hn
theorem places_count (c : Nat) : ∀ (l pre : List Nat), ((List.range' pre.length (l.length + 1)).filter fun i => (pre ++ l)[i]? == some c).length = l.count c
  | [], pre => by simp
  | x :: l, pre => by
    have ih := places_count c l (pre ++ [x])
    rw [List.length_cons, List.range'_succ, List.filter_cons]
    rw [List.append_assoc, List.length_append] at ih
    have e : (pre ++ x :: l)[pre.length]? = some x := by simp
    have e2 : (pre ++ ([x] ++ l)) = pre ++ x :: l := rfl
    rw [e2, List.length_singleton] at ih
    rw [List.count_cons, ← ih]
    by_cases h : x = c
    · have h1 : ((pre ++ x :: l)[pre.length]? == some c) = true := by rw [e, h]; exact beq_self_eq_true _
      rw [if_pos h1, if_pos (by rw [h]; exact beq_self_eq_true _), List.length_cons]
    · have h1 : ¬ ((pre ++ x :: l)[pre.length]? == some c) = true := by rw [e]; simpa using h
      rw [if_neg h1, if_neg (by simpa using h)]; rfl
theorem count_one (x : Str) (c : Nat) : Txt.count x ⟨#[c]⟩ = (x.cps.toList.count c : Nat) := by
  unfold Txt.count
  rw [occ_eq, occ_one x c _ 0 0 #[] (by omega) (Nat.le_refl _) (Nat.le_refl _) (Nat.lt_succ_self _)]
  have := places_count c x.cps.toList []
  rw [List.nil_append, List.length_nil, len_toList] at this
  rw [List.nil_append, Nat.sub_zero, this]
end
theorem count_bit (l : List Bool) (b : Bool) : (l.map bit).count (bit b) = l.count b := by
  induction l with
  | nil => rfl
  | cons x l ih =>
    rw [List.map_cons, List.count_cons, List.count_cons, ih]
    cases x <;> cases b <;> rfl
theorem S_count (l : List Bool) (b : Bool) : Txt.count (S l) (S [b]) = (l.count b : Nat) := by
  show Txt.count (S l) ⟨#[bit b]⟩ = _
  rw [count_one, S_tl, count_bit]
theorem S_in (b : Bool) (l : List Bool) : strIn (S [b]) (S l) = l.contains b := by
  show strIn ⟨#[bit b]⟩ (S l) = _
  rw [strIn_1, S_tl, Bool.eq_iff_iff, decide_eq_true_iff, List.mem_map]
  simp only [List.contains_iff_mem]
  exact ⟨fun ⟨a, h, e⟩ => by rw [← bit_inj e]; exact h, fun h => ⟨b, h, rfl⟩⟩
/-! ### slices -/
theorem cut_take {α : Type} (l : List α) (k : Nat) : cutD l none (some (k : Int)) = l.take k := by
  unfold cutD
  rw [HT.sIx_none, HT.sIx_nat, List.drop_zero, Nat.sub_zero, List.take_eq_take_iff]
  omega
theorem cut_drop {α : Type} (l : List α) (k : Nat) : cutD l (some (k : Int)) none = l.drop k := by
  unfold cutD
  rw [HT.sIx_none, HT.sIx_nat]
  by_cases h : k ≤ l.length
  · rw [Nat.min_eq_left h, List.take_of_length_le (by rw [List.length_drop]; omega)]
  · rw [Nat.min_eq_right (by omega), List.drop_length, List.drop_of_length_le (by omega)]
    simp
theorem sIx_neg (n d : Nat) : HT.sIx n d (some (-1)) = n - 1 := by
  show (if (-1 : Int) < 0 then ((-1 : Int) + (n : Int)).toNat else min (-1 : Int).toNat n) = n - 1
  rw [if_pos (by decide)]
  omega
theorem cut_mid {α : Type} (l : List α) (i j : Nat) : cutD l (some (i : Int)) (some (j : Int)) = (l.drop i).take (j - i) := by
  unfold cutD
  rw [HT.sIx_nat _ 0 i, HT.sIx_nat _ l.length j]
  by_cases h : i ≤ l.length
  · rw [Nat.min_eq_left h, List.take_eq_take_iff, List.length_drop]
    omega
  · rw [Nat.min_eq_right (show l.length ≤ i by omega), List.drop_length, List.drop_of_length_le (by omega)]
    simp
theorem cut_last {α : Type} (l : List α) : cutD l none (some (-1)) = l.dropLast := by
  unfold cutD
  rw [sIx_neg, HT.sIx_none, List.dropLast_eq_take, List.drop_zero, Nat.sub_zero]
theorem cut_midlast {α : Type} (l : List α) (i : Nat) : cutD l (some (i : Int)) (some (-1)) = (l.drop i).dropLast := by
  unfold cutD
  rw [sIx_neg, HT.sIx_nat, List.dropLast_eq_take, List.length_drop]
  by_cases h : i ≤ l.length
  · rw [Nat.min_eq_left h]
    congr 1
    omega
  · rw [Nat.min_eq_right (show l.length ≤ i by omega), List.drop_length, List.drop_of_length_le (by omega)]
    simp
theorem cut_taken {α : Type} (l : List α) {k : Int} (h : 0 ≤ k) : cutD l none (some k) = l.take k.toNat := by
  have := cut_take l k.toNat
  rwa [Int.toNat_of_nonneg h] at this
theorem cut_dropn {α : Type} (l : List α) {k : Int} (h : 0 ≤ k) : cutD l (some k) none = l.drop k.toNat := by
  have := cut_drop l k.toNat
  rwa [Int.toNat_of_nonneg h] at this
theorem cut_midn {α : Type} (l : List α) {i j : Int} (h : 0 ≤ i) (h' : 0 ≤ j) : cutD l (some i) (some j) = (l.drop i.toNat).take (j.toNat - i.toNat) := by
  have := cut_mid l i.toNat j.toNat
  rwa [Int.toNat_of_nonneg h, Int.toNat_of_nonneg h'] at this
theorem atI_S {l : List Bool} {k : Nat} {b : Bool} (h : l[k]? = some b) : atI (S l).cps.toList (k : Int) = some (bit b) := atI_nat (by rw [S_tl, List.getElem?_map, h]; rfl)
theorem szS {l : List Bool} (h : l.length ≤ 1000000) : (S l).length ≤ sizeLine := by
  have : sizeLine = 16777216 := rfl
  rw [S_len]; omega
end L2.DL

set_option Elab.async false
set_option linter.all false
set_option autoImplicit false
set_option maxRecDepth 100000
/-! Words in plain Lean: balanced signs, first pairs, turning. -/
namespace L2.DL
open PySem PySem.Spec
/-- balanced, from a depth on -/
def dy : Nat → List Bool → Bool
  | d, [] => d == 0
  | d, true :: l => dy (d + 1) l
  | 0, false :: _ => false
  | d + 1, false :: l => dy d l
/-- what stands ahead of the sign that goes below, and what behind it -/
def cut : Nat → List Bool → List Bool × List Bool
  | _, [] => ([], [])
  | d, true :: l => (true :: (cut (d + 1) l).1, (cut (d + 1) l).2)
  | 0, false :: l => ([], l)
  | d + 1, false :: l => (false :: (cut d l).1, (cut d l).2)
theorem dy_app : ∀ (x y : List Bool) (d e : Nat), dy d x = true → dy (d + e) (x ++ y) = dy e y
  | [], y, d, e, h => by
    have : d = 0 := by simpa [dy] using h
    subst this
    simp
  | true :: x, y, d, e, h => by
    have := dy_app x y (d + 1) e h
    rw [show d + 1 + e = d + e + 1 by omega] at this
    exact this
  | false :: x, y, 0, e, h => by cases h
  | false :: x, y, d + 1, e, h => by
    rw [show d + 1 + e = d + e + 1 by omega]
    exact dy_app x y d e h
theorem dy_cat {x y : List Bool} (h : dy 0 x = true) : dy 0 (x ++ y) = dy 0 y := by
  have := dy_app x y 0 0 h
  rwa [Nat.zero_add] at this
theorem dy_wrap {u v : List Bool} (h : dy 0 u = true) : dy 0 (true :: u ++ false :: v) = dy 0 v := by
  show dy 1 (u ++ false :: v) = _
  have := dy_app u (false :: v) 0 1 h
  rw [Nat.zero_add] at this
  exact this
theorem cut_spec : ∀ (l : List Bool) (d : Nat), dy (d + 1) l = true → l = (cut d l).1 ++ false :: (cut d l).2 ∧ dy d (cut d l).1 = true ∧ dy 0 (cut d l).2 = true
  | [], d, h => by cases h
  | true :: l, d, h => by
    obtain ⟨h1, h2, h3⟩ := cut_spec l (d + 1) h
    refine ⟨?_, h2, h3⟩
    show true :: l = true :: (cut (d + 1) l).1 ++ false :: (cut (d + 1) l).2
    rw [List.cons_append, ← h1]
  | false :: l, 0, h => ⟨rfl, rfl, h⟩
  | false :: l, d + 1, h => by
    obtain ⟨h1, h2, h3⟩ := cut_spec l d h
    refine ⟨?_, h2, h3⟩
    show false :: l = false :: (cut d l).1 ++ false :: (cut d l).2
    rw [List.cons_append, ← h1]
theorem cut_of : ∀ (u v : List Bool) (d : Nat), dy d u = true → cut d (u ++ false :: v) = (u, v)
  | [], v, d, h => by
    have : d = 0 := by simpa [dy] using h
    subst this
    rfl
  | true :: u, v, d, h => by
    show (true :: (cut (d + 1) (u ++ false :: v)).1, (cut (d + 1) (u ++ false :: v)).2) = _
    rw [cut_of u v (d + 1) h]
  | false :: u, v, 0, h => by cases h
  | false :: u, v, d + 1, h => by
    show (false :: (cut d (u ++ false :: v)).1, (cut d (u ++ false :: v)).2) = _
    rw [cut_of u v d h]
/-- the first pair -/
def fpair (w : List Bool) : List Bool × List Bool := cut 0 w.tail
theorem fpair_of {u v : List Bool} (h : dy 0 u = true) : fpair (true :: u ++ false :: v) = (u, v) := cut_of u v 0 h
theorem dy_split {w : List Bool} (h : dy 0 w = true) (hn : w ≠ []) : ∃ u v, dy 0 u = true ∧ dy 0 v = true ∧ w = true :: u ++ false :: v ∧ fpair w = (u, v) := by
  match w, hn, h with
  | true :: l, _, h =>
    obtain ⟨h1, h2, h3⟩ := cut_spec l 0 h
    exact ⟨_, _, h2, h3, by rw [List.cons_append, ← h1], rfl⟩
def turn (w : List Bool) : List Bool := (fpair w).1 ++ true :: (fpair w).2 ++ [false]
theorem turn_of {u v : List Bool} (h : dy 0 u = true) : turn (true :: u ++ false :: v) = u ++ true :: v ++ [false] := by
  unfold turn
  rw [fpair_of h]
theorem dy_turn {w : List Bool} (h : dy 0 w = true) (hn : w ≠ []) : dy 0 (turn w) = true ∧ turn w ≠ [] ∧ (turn w).length = w.length := by
  obtain ⟨u, v, h1, h2, e, ef⟩ := dy_split h hn
  unfold turn
  rw [ef, e]
  refine ⟨?_, by simp, by simp; omega⟩
  rw [List.append_assoc, dy_cat h1]
  show dy 1 (v ++ [false]) = true
  have := dy_app v [false] 0 1 h2
  rw [Nat.zero_add] at this
  exact this
/-- so many times -/
def iter {α : Type} (f : α → α) : Nat → α → α
  | 0, x => x
  | n + 1, x => iter f n (f x)
theorem iter_add {α : Type} (f : α → α) : ∀ (m n : Nat) (x : α), iter f (m + n) x = iter f n (iter f m x)
  | 0, n, x => by rw [Nat.zero_add]; rfl
  | m + 1, n, x => by
    rw [show m + 1 + n = (m + n) + 1 by omega]
    exact iter_add f m n (f x)
theorem iter_succ {α : Type} (f : α → α) (n : Nat) (x : α) : iter f (n + 1) x = f (iter f n x) := iter_add f n 1 x
theorem turn_round : ∀ (n : Nat) (x y : List Bool), x.length ≤ n → dy 0 x = true → dy 0 y = true → iter turn x.length (x ++ y) = y ++ x
  | n, [], y, _, _, _ => by simp [iter]
  | 0, _ :: _, _, h, _, _ => by simp at h
  | n + 1, a :: l, y, hl, hx, hy => by
    obtain ⟨u, v, h1, h2, e, _⟩ := dy_split hx (by simp)
    rw [e] at hl ⊢
    have e1 : (true :: u ++ false :: v).length = 1 + (u.length + (1 + v.length)) := by simp; omega
    rw [e1, iter_add]
    have e2 : iter turn 1 (true :: u ++ false :: v ++ y) = u ++ (true :: (v ++ y) ++ [false]) := by
      show turn _ = _
      rw [List.append_assoc, show (false :: v) ++ y = false :: (v ++ y) from rfl, turn_of h1]
      simp
    have hvy : dy 0 (v ++ y) = true := by rw [dy_cat h2]; exact hy
    have hw : dy 0 (true :: (v ++ y) ++ [false]) = true := by rw [dy_wrap hvy]; rfl
    rw [e2, iter_add, turn_round n u _ (by simp at hl; omega) h1 hw, iter_add]
    have e3 : iter turn 1 (true :: (v ++ y) ++ [false] ++ u) = v ++ (y ++ (true :: u ++ [false])) := by
      show turn _ = _
      rw [List.append_assoc, show [false] ++ u = false :: u from rfl, turn_of hvy]
      simp
    have hz : dy 0 (y ++ (true :: u ++ [false])) = true := by rw [dy_cat hy, dy_wrap h1]; rfl
    rw [e3, turn_round n v _ (by simp at hl; omega) h2 hz]
    simp
theorem turn_all {w : List Bool} (h : dy 0 w = true) : iter turn w.length w = w := by
  have := turn_round w.length w [] (Nat.le_refl _) h rfl
  rwa [List.append_nil, List.nil_append] at this
theorem dy_iter {w : List Bool} (h : dy 0 w = true) (hn : w ≠ []) : ∀ k, dy 0 (iter turn k w) = true ∧ iter turn k w ≠ [] ∧ (iter turn k w).length = w.length
  | 0 => ⟨h, hn, rfl⟩
  | k + 1 => by
    obtain ⟨h1, h2, h3⟩ := dy_iter h hn k
    obtain ⟨h4, h5, h6⟩ := dy_turn h1 h2
    rw [iter_succ]
    exact ⟨h4, h5, h6.trans h3⟩
/-- one to one -/
theorem turn_inj {x y : List Bool} (hx : dy 0 x = true) (hy : dy 0 y = true) (nx : x ≠ []) (ny : y ≠ []) (h : turn x = turn y) : x = y := by
  have l : x.length = y.length := by rw [← (dy_turn hx nx).2.2, ← (dy_turn hy ny).2.2, h]
  have hl : 0 < x.length := by cases x with | nil => exact absurd rfl nx | cons _ _ => simp
  obtain ⟨k, hk⟩ : ∃ k, x.length = k + 1 := ⟨x.length - 1, by omega⟩
  have e1 := turn_all hx
  have e2 := turn_all hy
  rw [← l] at e2
  rw [hk] at e1 e2
  rw [← e1, ← e2]
  show iter turn k (turn x) = iter turn k (turn y)
  rw [h]
theorem least {P : Nat → Prop} (n : Nat) : P n → ∃ m, m ≤ n ∧ P m ∧ ∀ k, k < m → ¬ P k := by
  induction n using Nat.strongRecOn with
  | _ n ih =>
    intro h
    by_cases q : ∃ k, k < n ∧ P k
    · obtain ⟨k, hk, pk⟩ := q
      obtain ⟨m, a, b, c⟩ := ih k hk pk
      exact ⟨m, by omega, b, c⟩
    · exact ⟨n, Nat.le_refl _, h, fun k hk pk => q ⟨k, hk, pk⟩⟩
/-- behind how many turns a word is itself -/
def per (w : List Bool) : Nat := ((List.range w.length).find? fun k => iter turn (k + 1) w == w).getD 0 + 1
theorem per_spec {w : List Bool} (h : dy 0 w = true) (hn : w ≠ []) : per w ≤ w.length ∧ iter turn (per w) w = w ∧ ∀ k, 1 ≤ k → k < per w → iter turn k w ≠ w := by
  have hl : 0 < w.length := by cases w with | nil => exact absurd rfl hn | cons _ _ => simp
  unfold per
  cases q : (List.range w.length).find? fun k => iter turn (k + 1) w == w with
  | none =>
    rw [List.find?_eq_none] at q
    have := q (w.length - 1) (by rw [List.mem_range]; omega)
    rw [show w.length - 1 + 1 = w.length by omega, turn_all h] at this
    simp at this
  | some i =>
    rw [List.find?_range_eq_some] at q
    obtain ⟨h1, h2, h3⟩ := q
    rw [List.mem_range] at h2
    refine ⟨by simp; omega, by simpa using h1, fun k k1 k2 e => ?_⟩
    have := h3 (k - 1) (by simp at k2; omega)
    rw [show k - 1 + 1 = k by omega, e] at this
    simp at this
theorem per_pos (w : List Bool) : 1 ≤ per w := Nat.succ_le_succ (Nat.zero_le _)
theorem iter_per {w : List Bool} (h : dy 0 w = true) (hn : w ≠ []) : ∀ (q r : Nat), iter turn (q * per w + r) w = iter turn r w
  | 0, r => by rw [Nat.zero_mul, Nat.zero_add]
  | q + 1, r => by
    rw [show (q + 1) * per w + r = per w + (q * per w + r) by rw [Nat.succ_mul]; omega, iter_add, (per_spec h hn).2.1, iter_per h hn q r]
theorem iter_mod {w : List Bool} (h : dy 0 w = true) (hn : w ≠ []) (k : Nat) : iter turn (k % per w) w = iter turn k w := by
  have := iter_per h hn (k / per w) (k % per w)
  rw [← this]
  congr 1
  rw [Nat.mul_comm]
  exact Nat.div_add_mod k (per w)
def turns (w : List Bool) : List (List Bool) := (List.range (per w)).map fun k => iter turn k w
theorem turns_len (w : List Bool) : (turns w).length = per w := by simp [turns]
theorem turns_get {w : List Bool} {k : Nat} (h : k < per w) : (turns w)[k]? = some (iter turn k w) := by
  simp [turns, h]
/-- unlike -/
theorem iter_ne {w : List Bool} (h : dy 0 w = true) (hn : w ≠ []) {i j : Nat} (hij : i < j) (hj : j < per w) : iter turn i w ≠ iter turn j w := fun e => by
  obtain ⟨p1, p2, p3⟩ := per_spec h hn
  refine p3 (j - i) (by omega) (by omega) ?_
  have e1 : iter turn (per w - i) (iter turn i w) = w := by
    rw [← iter_add, show i + (per w - i) = per w by omega, p2]
  have e2 : iter turn (per w - i) (iter turn j w) = iter turn (j - i) w := by
    rw [← iter_add, show j + (per w - i) = 1 * per w + (j - i) by omega, iter_per h hn]
  rw [← e2, ← e, e1]
theorem turns_nodup {w : List Bool} (h : dy 0 w = true) (hn : w ≠ []) : (turns w).Nodup := by
  unfold turns
  rw [List.nodup_iff_pairwise_ne, List.pairwise_map]
  refine List.Pairwise.imp_of_mem (R := fun a b => a < b) (fun {a b} ha hb hab => iter_ne h hn hab (List.mem_range.mp hb)) ?_
  exact List.pairwise_lt_range
/-! ### a word's text -/
def wok (l : List Bool) : Bool := dy 0 l && decide (2 ≤ l.length) && decide (l.length ≤ 400)
theorem wok_iff {l : List Bool} : wok l = true ↔ dy 0 l = true ∧ 2 ≤ l.length ∧ l.length ≤ 400 := by
  unfold wok
  simp [and_assoc]
theorem wok_ne {l : List Bool} (h : wok l = true) : l ≠ [] := fun e => by
  obtain ⟨_, h2, _⟩ := wok_iff.mp h
  rw [e] at h2
  simp at h2
theorem run_S : ∀ (l : List Bool) (d : Nat), run (d : Int) (l.map bit) = some 0 ↔ dy d l = true
  | [], d => by simp [run, dy]
  | true :: l, d => by
    have e : run (d : Int) ((true :: l).map bit) = run ((d + 1 : Nat) : Int) (l.map bit) := by
      rw [List.map_cons, run]
      have : step (d : Int) (bit true) = ((d + 1 : Nat) : Int) := rfl
      rw [this, if_neg (by omega)]
    rw [e, run_S l (d + 1)]
    rfl
  | false :: l, 0 => by
    have e : run ((0 : Nat) : Int) ((false :: l).map bit) = none := by
      rw [List.map_cons, run]
      rw [if_pos (by decide)]
    rw [e]
    simp [dy]
  | false :: l, d + 1 => by
    have e : run ((d + 1 : Nat) : Int) ((false :: l).map bit) = run (d : Int) (l.map bit) := by
      rw [List.map_cons, run]
      have : step ((d + 1 : Nat) : Int) (bit false) = (d : Int) := by
        show ((d + 1 : Nat) : Int) - 1 = _
        omega
      rw [this, if_neg (by omega)]
    rw [e, run_S l d]
    rfl
theorem S_01 (l : List Bool) : is01 (S l).cps.toList = true := by
  rw [S_tl]
  unfold is01
  rw [List.all_map, List.all_eq_true]
  intro b _
  cases b <;> rfl
theorem isW_S (l : List Bool) : isW (S l) = wok l := by
  unfold isW wok
  rw [S_01, S_len, S_tl, Bool.true_and, Bool.eq_iff_iff]
  have := run_S l 0
  simp only [Bool.and_eq_true, beq_iff_eq, decide_eq_true_eq]
  rw [show ((0 : Nat) : Int) = 0 from rfl] at this
  rw [this]
  exact ⟨fun ⟨⟨a, b⟩, c⟩ => ⟨⟨c, a⟩, b⟩, fun ⟨⟨c, a⟩, b⟩ => ⟨⟨a, b⟩, c⟩⟩
theorem of_01 : ∀ {cs : List Nat}, is01 cs = true → ∃ l : List Bool, cs = l.map bit
  | [], _ => ⟨[], rfl⟩
  | c :: cs, h => by
    have h' : (decide (c ∈ [48, 49]) && is01 cs) = true := h
    rw [Bool.and_eq_true, decide_eq_true_eq] at h'
    obtain ⟨l, e⟩ := of_01 h'.2
    have hc := h'.1
    simp only [List.mem_cons, List.not_mem_nil, or_false] at hc
    rcases hc with rfl | rfl
    · exact ⟨false :: l, by rw [e]; rfl⟩
    · exact ⟨true :: l, by rw [e]; rfl⟩
theorem S_of {z : Str} (h : is01 z.cps.toList = true) : ∃ l, z = S l := by
  obtain ⟨l, e⟩ := of_01 h
  refine ⟨l, ?_⟩
  obtain ⟨cs⟩ := z
  unfold S
  congr 1
  apply Array.toList_inj.mp
  simpa using e
theorem isW_of {z : Str} (h : isW z = true) : ∃ l, z = S l ∧ wok l = true := by
  have h1 : is01 z.cps.toList = true := by
    unfold isW at h
    simp at h
    exact h.1.1.1
  obtain ⟨l, rfl⟩ := S_of h1
  exact ⟨l, rfl, by rw [← isW_S]; exact h⟩
theorem wok_turn {w : List Bool} (h : wok w = true) : wok (turn w) = true := by
  obtain ⟨h1, h2, h3⟩ := wok_iff.mp h
  obtain ⟨a, b, c⟩ := dy_turn h1 (wok_ne h)
  exact wok_iff.mpr ⟨a, by omega, by omega⟩
theorem wok_iter {w : List Bool} (h : wok w = true) (k : Nat) : wok (iter turn k w) = true := by
  obtain ⟨h1, h2, h3⟩ := wok_iff.mp h
  obtain ⟨a, b, c⟩ := dy_iter h1 (wok_ne h) k
  exact wok_iff.mpr ⟨a, by omega, by omega⟩
/-! ### equal data -/
/-- data of at most k levels, whose equality can be asked -/
class Dk (k : Nat) (d : D) : Prop where
  f : d.flat = true
  s : PyData.canLay0 d.p = true
  e : d.p.depth ≤ k
class DkL (k : Nat) (ds : List D) : Prop where
  f : D.flats ds = true
  s : PyData.canLayAll0 (D.ps ds) = true
  e : PyData.depthAll (D.ps ds) ≤ k
instance {k : Nat} : Dk k .non := ⟨rfl, rfl, Nat.zero_le _⟩
instance {k : Nat} {b : Bool} : Dk k (.bl b) := ⟨rfl, rfl, Nat.zero_le _⟩
instance {k : Nat} {i : Int} : Dk k (.int i) := ⟨rfl, rfl, Nat.zero_le _⟩
instance {k : Nat} {l : List Bool} : Dk k (.str (S l)) := ⟨rfl, S_sv l, Nat.zero_le _⟩
theorem dk_str {k : Nat} {z : Str} (h : SV z) : Dk k (.str z) := ⟨rfl, h, Nat.zero_le _⟩
instance {k : Nat} : DkL k [] := ⟨rfl, rfl, Nat.zero_le _⟩
instance {k : Nat} {d : D} {ds : List D} [h : Dk k d] [g : DkL k ds] : DkL k (d :: ds) := ⟨by
  show (D.flat d && D.flats ds) = true
  rw [h.f, g.f]; rfl, by
  show (PyData.canLay0 d.p && PyData.canLayAll0 (D.ps ds)) = true
  rw [h.s, g.s]; rfl, by
  have h1 := h.e
  have h2 := g.e
  show max (PyData.depth d.p) (PyData.depthAll (D.ps ds)) ≤ k
  omega⟩
instance {k : Nat} {ds : List D} [h : DkL k ds] : Dk (k + 1) (.lst ds) := ⟨h.f, h.s, by
  have := h.e
  show PyData.depthAll (D.ps ds) + 1 ≤ k + 1
  omega⟩
instance {k : Nat} {ds : List D} [h : DkL k ds] : Dk (k + 1) (.tup ds) := ⟨h.f, h.s, by
  have := h.e
  show PyData.depthAll (D.ps ds) + 1 ≤ k + 1
  omega⟩
theorem dkl_of {k : Nat} : ∀ {ds : List D}, (∀ d ∈ ds, Dk k d) → DkL k ds
  | [], _ => inferInstance
  | d :: ds, h => by
    haveI := h d List.mem_cons_self
    haveI := dkl_of fun e he => h e (List.mem_cons_of_mem _ he)
    infer_instance
theorem Dk.ok {d : D} {k : Nat} (h : Dk k d) (hk : k ≤ 64) : d.deepOk = true := by
  unfold D.deepOk SeqAt.shaped
  rw [h.f, h.s, decide_eq_true (Nat.le_trans h.e hk)]
  rfl
theorem eqb_self {d : D} [h : Dk 8 d] : D.eqb d d = true := SeqAt.eqv_refl d.p h.s
theorem eqOk_self {d : D} [h : Dk 8 d] : eqOk d d = true := by
  have := h.ok (by decide)
  cases d <;> first
    | rfl
    | exact Bool.noConfusion h.f
    | (show (D.deepOk _ && D.deepOk _) = true; rw [this]; rfl)
theorem eqOk_ll {ds es : List D} [h : Dk 8 (.lst ds)] [g : Dk 8 (.lst es)] : eqOk (.lst ds) (.lst es) = true := by
  show (D.deepOk _ && D.deepOk _) = true
  rw [h.ok (by decide), g.ok (by decide)]; rfl
theorem eqOk_tt {ds es : List D} [h : Dk 8 (.tup ds)] [g : Dk 8 (.tup es)] : eqOk (.tup ds) (.tup es) = true := by
  show (D.deepOk _ && D.deepOk _) = true
  rw [h.ok (by decide), g.ok (by decide)]; rfl
/-! ### repr of lists of texts -/
theorem rpl_of {n m k : Nat} : ∀ {ds : List D}, (∀ d ∈ ds, Rp n m d) → ds.length ≤ k → RpL (k * (n + 2)) m ds := by
  intro ds h hl
  have : RpL (ds.length * (n + 2)) m ds := by
    clear hl
    induction ds with
    | nil => exact ⟨rfl, rfl, Nat.zero_le _, Nat.zero_le _⟩
    | cons d ds ih =>
      have h1 := h d List.mem_cons_self
      have h2 := ih fun e he => h e (List.mem_cons_of_mem _ he)
      refine ⟨?_, ?_, ?_, ?_⟩
      · show (D.flat d && D.flats ds) = true
        rw [h1.f, h2.f]; rfl
      · show (PyData.showable d.p && PyData.showableAll (D.ps ds)) = true
        rw [h1.s, h2.s]; rfl
      · have h3 := h1.e
        have h4 := h2.e
        show max (PyData.depth d.p) (PyData.depthAll (D.ps ds)) ≤ m
        omega
      · have h3 := h1.l
        have h4 := h2.l
        show (d.p.shown.length :: (PyData.shownAll (D.ps ds)).map (·.length)).sum + 2 * (ds.length + 1) ≤ _
        rw [List.sum_cons, List.length_cons, Nat.add_mul]
        omega
  refine ⟨this.f, this.s, this.e, Nat.le_trans this.l (Nat.mul_le_mul_right _ hl)⟩
/-! ### loops -/
theorem wWhile_by {t : WT} {body : WS} {E : WEnds} {env : List Sl} {c : Nat} (I : Nat → List Sl → Nat → Prop) (m : Nat) (h0 : I m env c)
    (step : ∀ m env c (K : List Sl → Nat → Prop), I m env c → (∀ m' env' c', m' < m → I m' env' c' → K env' c') → t env c fun k c1 => if k = true then body { nx := K, rt := E.rt, bk := E.nx, ct := K } env c1 else E.nx env c1) : wWhile t body E env c := by
  have go : ∀ (n m : Nat) (env : List Sl) (c : Nat), m < n → I m env c → whileN t body n E env c := by
    intro n
    induction n with
    | zero => intro m env c h; omega
    | succ n ih =>
      intro m env c h hi
      exact step m env c _ hi fun m' env' c' hm hi' => ih m' env' c' (by omega) hi'
  exact ⟨m + 1, go (m + 1) m env c (Nat.lt_succ_self m) h0⟩
theorem enumD_cons {k : Nat} {d : D} {ds : List D} : enumD k (d :: ds) = .tup [.int (k : Nat), d] :: enumD (k + 1) ds := rfl
theorem sgn_eq1 (b : Bool) : ((S [b]) == S [true]) = b := by rw [S_beq]; cases b <;> rfl
theorem sgn_eq0 (b : Bool) : ((S [b]) == S [false]) = !b := by rw [S_beq]; cases b <;> rfl
theorem js_nil {acc : Str} {env : List Sl} {c : Nat} {P : Str → Nat → Prop} : js [] acc env c P = P acc c := rfl
theorem js_cons {w : WE} {ws : List WE} {acc : Str} {env : List Sl} {c : Nat} {P : Str → Nat → Prop} : js (w :: ws) acc env c P = w env c fun d c1 => ∃ y, d = .str y ∧ (acc ++ y).length ≤ sizeLine ∧ js ws (acc ++ y) env c1 P := rfl
theorem fmtD_s {y : Str} {P : D → Prop} : fmtD (.str y) P = (y.length ≤ sizeLine ∧ P (.str y)) := rfl
theorem fmtD_i {i : Int} {P : D → Prop} : fmtD (.int i) P = (i.natAbs.log2 < 1920 ∧ P (.str (toString i))) := rfl
theorem setA_nil {env : List Sl} : setA env [] [] = env := rfl
theorem setA_v {env : List Sl} {i : Nat} {is : List Nat} {d : D} {as : List Ar} : setA env (i :: is) (.v d :: as) = setA (env.set i (.val d)) is as := rfl
theorem setA_o {env : List Sl} {i : Nat} {is : List Nat} {d : OT} {as : List Ar} : setA env (i :: is) (.o d :: as) = setA (env.set i (.ow d)) is as := rfl
end L2.DL

set_option Elab.async false
set_option linter.all false
set_option autoImplicit false
set_option maxRecDepth 100000
/-! Words: the last pair, turned back, mirrored, beginnings. -/
namespace L2.DL
open PySem PySem.Spec
theorem dy_last : ∀ (n : Nat) (w : List Bool), w.length ≤ n → dy 0 w = true → w ≠ [] → ∃ y u, dy 0 y = true ∧ dy 0 u = true ∧ w = y ++ true :: u ++ [false]
  | 0, w, hl, _, hn => by cases w with | nil => exact absurd rfl hn | cons _ _ => simp at hl
  | n + 1, w, hl, h, hn => by
    obtain ⟨u, v, h1, h2, e, _⟩ := dy_split h hn
    by_cases hv : v = []
    · exact ⟨[], u, rfl, h1, by rw [e, hv]; simp⟩
    · obtain ⟨y, x, h3, h4, e2⟩ := dy_last n v (by rw [e] at hl; simp at hl; omega) h2 hv
      refine ⟨true :: u ++ false :: y, x, by rw [dy_wrap h1]; exact h3, h4, ?_⟩
      rw [e, e2]
      simp
def back (w : List Bool) : List Bool := iter turn (w.length - 1) w
theorem back_turn {w : List Bool} (h : dy 0 w = true) (hn : w ≠ []) : back (turn w) = w := by
  unfold back
  rw [(dy_turn h hn).2.2]
  have hl : 0 < w.length := by cases w with | nil => exact absurd rfl hn | cons _ _ => simp
  have e : iter turn (w.length - 1) (turn w) = iter turn (w.length - 1 + 1) w := rfl
  rw [e, Nat.sub_add_cancel hl, turn_all h]
theorem turn_back {w : List Bool} (h : dy 0 w = true) (hn : w ≠ []) : turn (back w) = w := by
  unfold back
  have hl : 0 < w.length := by cases w with | nil => exact absurd rfl hn | cons _ _ => simp
  rw [← iter_succ turn, Nat.sub_add_cancel hl, turn_all h]
theorem back_of {y u : List Bool} (hy : dy 0 y = true) (hu : dy 0 u = true) : back (y ++ true :: u ++ [false]) = true :: y ++ false :: u := by
  have h : dy 0 (true :: y ++ false :: u) = true := by rw [dy_wrap hy]; exact hu
  have := back_turn h (by simp)
  rwa [turn_of hy] at this
theorem wok_back {w : List Bool} (h : wok w = true) : wok (back w) = true := wok_iter h _
/-- where the last pair begins -/
def bgn : Nat → Int → Nat → List Bool → Nat
  | _, _, b, [] => b
  | k, d, b, s :: l => bgn (k + 1) (if s then d + 1 else d - 1) (if d = 0 then k else b) l
theorem bgn_t {k : Nat} {d : Int} {b : Nat} {l : List Bool} : bgn k d b (true :: l) = bgn (k + 1) (d + 1) (if d = 0 then k else b) l := rfl
theorem bgn_f {k : Nat} {d : Int} {b : Nat} {l : List Bool} : bgn k d b (false :: l) = bgn (k + 1) (d - 1) (if d = 0 then k else b) l := rfl
theorem bgn_in : ∀ (u r : List Bool) (k d e b : Nat), dy d u = true → bgn k ((d + e + 1 : Nat) : Int) b (u ++ r) = bgn (k + u.length) ((e + 1 : Nat) : Int) b r
  | [], r, k, d, e, b, h => by
    have : d = 0 := by simpa [dy] using h
    subst this
    simp
  | true :: u, r, k, d, e, b, h => by
    rw [List.cons_append, bgn_t, if_neg (show ¬ ((d + e + 1 : Nat) : Int) = 0 by omega)]
    have := bgn_in u r (k + 1) (d + 1) e b h
    rw [show ((d + 1 + e + 1 : Nat) : Int) = ((d + e + 1 : Nat) : Int) + 1 by omega] at this
    rw [this, List.length_cons]
    congr 1
    omega
  | false :: u, r, k, 0, e, b, h => by cases h
  | false :: u, r, k, d + 1, e, b, h => by
    rw [List.cons_append, bgn_f, if_neg (show ¬ ((d + 1 + e + 1 : Nat) : Int) = 0 by omega)]
    have := bgn_in u r (k + 1) d e b h
    rw [show ((d + e + 1 : Nat) : Int) = ((d + 1 + e + 1 : Nat) : Int) - 1 by omega] at this
    rw [this, List.length_cons]
    congr 1
    omega
theorem bgn_last {u : List Bool} (hu : dy 0 u = true) : ∀ (n : Nat) (y : List Bool) (k b : Nat), y.length ≤ n → dy 0 y = true → bgn k 0 b (y ++ true :: u ++ [false]) = k + y.length
  | n, [], k, b, _, _ => by
    rw [List.nil_append, List.cons_append, bgn_t, if_pos rfl]
    have := bgn_in u [false] (k + 1) 0 0 k hu
    rw [show ((0 : Int) + 1) = ((0 + 0 + 1 : Nat) : Int) from rfl, this, bgn_f, if_neg (by decide)]
    rfl
  | 0, _ :: _, _, _, h, _ => by simp at h
  | n + 1, a :: l, k, b, hl, hy => by
    obtain ⟨x, v, h1, h2, e, _⟩ := dy_split hy (by simp)
    rw [e] at hl ⊢
    have e1 : true :: x ++ false :: v ++ true :: u ++ [false] = true :: (x ++ (false :: (v ++ true :: u ++ [false]))) := by simp
    rw [e1, bgn_t, if_pos rfl]
    have := bgn_in x (false :: (v ++ true :: u ++ [false])) (k + 1) 0 0 k h1
    rw [show ((0 : Int) + 1) = ((0 + 0 + 1 : Nat) : Int) from rfl, this, bgn_f, if_neg (by decide)]
    have := bgn_last hu n v (k + 1 + x.length + 1) k (by simp at hl; omega) h2
    rw [show ((0 + 1 : Nat) : Int) - 1 = 0 from rfl, this]
    simp
    omega
/-! ### beginnings -/
theorem dy_pre : ∀ (l : List Bool) (d k : Nat), dy d l = true → (l.take k).count false ≤ d + (l.take k).count true
  | [], d, k, _ => by simp
  | a :: l, d, 0, _ => by simp
  | true :: l, d, k + 1, h => by
    have := dy_pre l (d + 1) k h
    simp [List.count_cons] at this ⊢
    omega
  | false :: l, 0, k + 1, h => by cases h
  | false :: l, d + 1, k + 1, h => by
    have := dy_pre l d k h
    simp [List.count_cons] at this ⊢
    omega
theorem dy_tot : ∀ (l : List Bool) (d : Nat), dy d l = true → l.count false = d + l.count true
  | [], d, h => by
    have : d = 0 := by simpa [dy] using h
    subst this
    rfl
  | true :: l, d, h => by
    have := dy_tot l (d + 1) h
    simp [List.count_cons] at this ⊢
    omega
  | false :: l, 0, h => by cases h
  | false :: l, d + 1, h => by
    have := dy_tot l d h
    simp [List.count_cons] at this ⊢
    omega
theorem count_len (l : List Bool) : l.count true + l.count false = l.length := by
  induction l with
  | nil => rfl
  | cons b l ih => cases b <;> simp [List.count_cons] <;> omega
theorem dy_even {l : List Bool} (h : dy 0 l = true) : ∃ m, l.length = 2 * m := by
  have := dy_tot l 0 h
  have h2 := count_len l
  exact ⟨l.count true, by omega⟩
/-- where the first pair ends -/
theorem first_end {u v : List Bool} (hu : dy 0 u = true) : (∀ k, 1 ≤ k → k ≤ u.length + 1 → ((true :: u ++ false :: v).take k).count false < ((true :: u ++ false :: v).take k).count true) ∧
    ((true :: u ++ false :: v).take (u.length + 2)).count false = ((true :: u ++ false :: v).take (u.length + 2)).count true := by
  constructor
  · intro k h1 h2
    obtain ⟨j, rfl⟩ : ∃ j, k = j + 1 := ⟨k - 1, by omega⟩
    rw [List.cons_append, List.take_succ_cons, List.take_append_of_le_length (by omega)]
    have := dy_pre u 0 j hu
    simp [List.count_cons]
    omega
  · have := dy_tot u 0 hu
    rw [List.cons_append, show u.length + 2 = (u.length + 1) + 1 from rfl, List.take_succ_cons, List.take_append, List.take_of_length_le (by omega), show u.length + 1 - u.length = 1 by omega]
    simp [List.count_cons, List.count_append]
    omega
/-- where the last pair begins -/
theorem last_end {y u : List Bool} (hy : dy 0 y = true) (hu : dy 0 u = true) : ((y ++ true :: u ++ [false]).take y.length).count false = ((y ++ true :: u ++ [false]).take y.length).count true ∧
    ∀ k, y.length < k → k < y.length + u.length + 2 → ((y ++ true :: u ++ [false]).take k).count false < ((y ++ true :: u ++ [false]).take k).count true := by
  have ty := dy_tot y 0 hy
  constructor
  · rw [List.append_assoc, List.take_append_of_le_length (Nat.le_refl _), List.take_length]
    omega
  · intro k h1 h2
    obtain ⟨j, rfl⟩ : ∃ j, k = y.length + (j + 1) := ⟨k - y.length - 1, by omega⟩
    rw [List.append_assoc, List.take_append, List.take_of_length_le (by omega), show y.length + (j + 1) - y.length = j + 1 by omega, List.cons_append, List.take_succ_cons, List.take_append_of_le_length (by omega)]
    have := dy_pre u 0 j hu
    simp [List.count_cons, List.count_append]
    omega
/-! ### mirrored -/
def mir (w : List Bool) : List Bool := (w.map not).reverse
theorem mir_len (w : List Bool) : (mir w).length = w.length := by simp [mir]
theorem mir_mir (w : List Bool) : mir (mir w) = w := by
  unfold mir
  rw [List.map_reverse, List.reverse_reverse, List.map_map]
  have : (not ∘ not) = id := by funext b; cases b <;> rfl
  rw [this, List.map_id]
theorem mir_app (x y : List Bool) : mir (x ++ y) = mir y ++ mir x := by simp [mir]
theorem mir_wrap (u v : List Bool) : mir (true :: u ++ false :: v) = mir v ++ true :: mir u ++ [false] := by
  simp [mir]
theorem dy_mir : ∀ (n : Nat) (w : List Bool), w.length ≤ n → dy 0 w = true → dy 0 (mir w) = true
  | n, [], _, _ => rfl
  | 0, _ :: _, h, _ => by simp at h
  | n + 1, a :: l, hl, h => by
    obtain ⟨u, v, h1, h2, e, _⟩ := dy_split h (by simp)
    rw [e] at hl ⊢
    have hu := dy_mir n u (by simp at hl; omega) h1
    have hv := dy_mir n v (by simp at hl; omega) h2
    rw [mir_wrap, List.append_assoc, dy_cat hv, show true :: mir u ++ [false] = true :: mir u ++ false :: [] from rfl, dy_wrap hu]
    rfl
theorem wok_mir {w : List Bool} (h : wok w = true) : wok (mir w) = true := by
  obtain ⟨h1, h2, h3⟩ := wok_iff.mp h
  exact wok_iff.mpr ⟨dy_mir _ w (Nat.le_refl _) h1, by rw [mir_len]; exact h2, by rw [mir_len]; exact h3⟩
theorem mir_turn {w : List Bool} (h : dy 0 w = true) (hn : w ≠ []) : mir (turn w) = back (mir w) := by
  obtain ⟨u, v, h1, h2, e, _⟩ := dy_split h hn
  have hu := dy_mir _ u (Nat.le_refl _) h1
  have hv := dy_mir _ v (Nat.le_refl _) h2
  rw [e, turn_of h1, mir_wrap, back_of hv hu]
  simp [mir]
/-! ### texts of signs joined -/
theorem strs_sgn (l : List Bool) : D.strs (l.map sgn) = some (l.map fun b => S [b]) := by
  have := strs_S (l.map fun b => [b])
  rw [List.map_map, List.map_map] at this
  exact this
theorem join_sgn (l : List Bool) : Txt.join (S []) (l.map fun b => S [b]) = S l := by
  have := S_join (l.map fun b => [b])
  rw [List.map_map] at this
  have e : (l.map fun b => [b]).flatten = l := by
    clear this
    induction l with | nil => rfl | cons b l ih => simp [ih]
  rw [e] at this
  exact this
theorem sum_sgn (l : List Bool) : ((l.map fun b => S [b]).map (·.length)).sum = l.length := by
  induction l with
  | nil => rfl
  | cons b l ih => rw [List.map_cons, List.map_cons, List.sum_cons, ih, S_len]; simp; omega
/-- join of signs -/
theorem join_ok {l : List Bool} {P : D → Prop} (hl : l.length ≤ 1000000) (h : P (.str (S l))) : joinD (S []) (.lst (l.map sgn)) P := by
  refine ⟨_, strs_sgn l, ?_, by rw [join_sgn]; exact h⟩
  rw [sum_sgn, S_len]
  simp
  omega
/-! ### the first and the last of a list that was picked -/
theorem range_first {n : Nat} {p : Nat → Bool} {j : Nat} (hj : j < n) (h1 : p j = true) (h2 : ∀ i, i < j → p i = false) : ((List.range n).filter p)[0]? = some j := by
  have e : List.range n = List.range j ++ (List.range' j (n - j)) := by
    rw [List.range_eq_range', List.range_eq_range', show n = j + (n - j) by omega, ← List.range'_append_1]
    simp
  rw [e, List.filter_append]
  have e1 : (List.range j).filter p = [] := List.filter_eq_nil_iff.mpr fun i hi => by rw [h2 i (List.mem_range.mp hi)]; exact Bool.false_ne_true
  obtain ⟨m, hm⟩ : ∃ m, n - j = m + 1 := ⟨n - j - 1, by omega⟩
  rw [e1, hm, List.range'_succ, List.filter_cons_of_pos h1]
  rfl
theorem range_last {n : Nat} {p : Nat → Bool} {j : Nat} (hj : j < n) (h1 : p j = true) (h2 : ∀ i, j < i → i < n → p i = false) : ((List.range n).filter p).getLast? = some j := by
  have e : List.range n = List.range j ++ (j :: List.range' (j + 1) (n - j - 1)) := by
    rw [List.range_eq_range', List.range_eq_range']
    obtain ⟨m, hm⟩ : ∃ m, n - j = m + 1 := ⟨n - j - 1, by omega⟩
    rw [show n - j - 1 = m by omega, ← List.range'_succ, show n = j + (m + 1) by omega, ← List.range'_append_1]
    simp
  rw [e, List.filter_append, List.filter_cons_of_pos h1]
  have e1 : (List.range' (j + 1) (n - j - 1)).filter p = [] := List.filter_eq_nil_iff.mpr fun i hi => by
    rw [List.mem_range'_1] at hi
    rw [h2 i (by omega) (by omega)]; exact Bool.false_ne_true
  rw [e1]
  simp
theorem atI_last {α : Type} {l : List α} {x : α} (h : l.getLast? = some x) : atI l (-1) = some x := by
  rw [List.getLast?_eq_getElem?] at h
  have hl : 0 < l.length := by cases l with | nil => simp at h | cons _ _ => simp
  unfold atI
  have e : ixN l.length (-1) = some (l.length - 1) := by
    unfold ixN
    first
      | (rw [if_neg (by omega), if_pos (by omega)]; congr 1; omega)
      | (split <;> simp <;> omega)
  rw [e]
  exact h
theorem rgc2 {i j : Int} {n : Nat} (hi : -1000000 ≤ i) (hj : j ≤ 1000000) (h1 : j ≤ i + 2 * n) (h2 : i + 2 * n ≤ j + 1) : RgC i j 2 n := by
  refine ⟨by decide, by decide, ?_, ?_⟩
  · unfold Builtin.Range.small Builtin.Range.rangeSize
    simp only [Builtin.Range.rangeFitsLong, Bool.and_eq_true, Bool.or_eq_true, decide_eq_true_eq, beq_iff_eq, show ((2 : Int) > 0) by decide, if_true]
    split <;> omega
  · unfold Builtin.Range.rangeSize
    rw [if_pos (by decide)]
    split <;> omega
theorem join_ex {l : List Bool} {Q : Str → Prop} (hl : l.length ≤ 1000000) (h : Q (S l)) : ∃ ys, D.strs (l.map sgn) = some ys ∧ (ys.map (fun x => x.length)).sum + ys.length * 0 ≤ 16777216 ∧ Q (Txt.join (S []) ys) := by
  refine ⟨_, strs_sgn l, ?_, by rw [join_sgn]; exact h⟩
  rw [sum_sgn]
  omega
end L2.DL

set_option Elab.async false
set_option linter.all false
set_option autoImplicit false
set_option maxRecDepth 100000
/-! min, max, sum, sorted of lists of texts, of ints. -/
namespace L2.DL
open PySem PySem.Spec PyProof.Rows
theorem holdAll_strs {h : Heap} : ∀ {zs : List Str} {us : List Value}, Vals (zs.map V.str) us → PySem.W.HoldAll h us zs
  | [], _, r => by cases r; exact PySem.W.HoldAll.nil
  | z :: zs, _, r => by
    cases r with
    | cons r rr =>
      obtain ⟨t, rfl⟩ := r
      exact PySem.W.HoldAll.cons ⟨_, .str z t⟩ (holdAll_strs rr)
theorem holds_str {h : Heap} {v : Value} {z y : Str} (e : ∃ t, v = .str y t) (H : PySem.W.Holds h v z) : y = z := by
  obtain ⟨t, rfl⟩ := e
  obtain ⟨as, r⟩ := H
  cases r
  rfl
def rMinS (K : PySem.W.Frag) (mx : Bool) : List V → Hp → VK → Prop := fun vs H Q => ∃ (a : Addr) (z : Str) (zs : List Str), vs = [V.ref a] ∧ (SqL K H a ((z :: zs).map V.str)) ∧ Q (.str (if mx then PySem.W.maxOf z zs else PySem.W.minOf z zs)) H
section
variable {X : Cx} {F : Hp} {γ : Gm} {pos : Pos}
theorem cr_minS (hc : X.calm = true) (hu : X.A.units + 64 < cLine) : CallR X (.builtin "min") (rMinS X.K false) := by
  intro pins s σ H vs us Q I r h
  obtain ⟨a, z, zs, rfl, hs, q⟩ := h
  obtain ⟨its, rv, hl, _⟩ := I.list hs
  rw [Vals.ref1 r]
  refine PySem.W.min_list_datum (I.ok.hd hc) hl.isList (by simpa using holdAll_strs rv) (by show X.A.units + 1 + 0 < cLine; omega) fun i v h' tk hv Hv hk => ?_
  have hv' : its[i]? = some v := by rw [← List.getElem?_toArray]; exact hv
  have hi : i < (z :: zs).length := by
    have := (List.getElem?_eq_some_iff.mp hv').1
    have h2 := rv.length
    rw [List.length_map] at h2
    omega
  obtain ⟨y, hy⟩ : ∃ y, (z :: zs)[i]? = some y := ⟨(z :: zs)[i], List.getElem?_eq_getElem hi⟩
  obtain ⟨u, hu', ru⟩ := rv.get (show ((z :: zs).map V.str)[i]? = some (V.str y) by rw [List.getElem?_map, hy]; rfl)
  rw [hv'] at hu'
  cases hu'
  obtain ⟨t, rfl⟩ := ru
  have := holds_str ⟨t, rfl⟩ Hv
  subst this
  exact ⟨.str _, H, I.kept hk, ⟨_, rfl⟩, q⟩
theorem cr_maxS (hc : X.calm = true) (hu : X.A.units + 64 < cLine) : CallR X (.builtin "max") (rMinS X.K true) := by
  intro pins s σ H vs us Q I r h
  obtain ⟨a, z, zs, rfl, hs, q⟩ := h
  obtain ⟨its, rv, hl, _⟩ := I.list hs
  rw [Vals.ref1 r]
  refine PySem.W.max_list_datum (I.ok.hd hc) hl.isList (by simpa using holdAll_strs rv) (by show X.A.units + 1 + 0 < cLine; omega) fun i v h' tk hv Hv hk => ?_
  have hv' : its[i]? = some v := by rw [← List.getElem?_toArray]; exact hv
  have hi : i < (z :: zs).length := by
    have := (List.getElem?_eq_some_iff.mp hv').1
    have h2 := rv.length
    rw [List.length_map] at h2
    omega
  obtain ⟨y, hy⟩ : ∃ y, (z :: zs)[i]? = some y := ⟨(z :: zs)[i], List.getElem?_eq_getElem hi⟩
  obtain ⟨u, hu', ru⟩ := rv.get (show ((z :: zs).map V.str)[i]? = some (V.str y) by rw [List.getElem?_map, hy]; rfl)
  rw [hv'] at hu'
  cases hu'
  obtain ⟨t, rfl⟩ := ru
  have := holds_str ⟨t, rfl⟩ Hv
  subst this
  exact ⟨.str _, H, I.kept hk, ⟨_, rfl⟩, q⟩
def rSortedSA (K : PySem.W.Frag) : List V → Hp → VK → Prop := fun vs H Q => ∃ (a : Addr) (xs : List Str), vs = [V.ref a] ∧ SqL K H a (xs.map V.str) ∧
  ∀ (ys : List Str) (p : Addr), ys.Perm xs → sortedS ys = true → H p = none → Q (.ref p) (upd H p (.lst (ys.map V.str)))
theorem cr_sortedSA : CallR X (.builtin "sorted") (rSortedSA X.K) := by
  intro pins s σ H vs us Q I r h
  obtain ⟨a, xs, rfl, hs, q⟩ := h
  obtain ⟨its, rv, hl, hz⟩ := I.list hs
  rw [Vals.ref1 r]
  have hlen0 := rv.length
  rw [List.length_map] at hlen0 hz
  refine PyProof.Rows.sorted_strsAny hl.isList rv.strs (by rw [← hlen0]; exact hz) fun out ys h1 h2 h3 => ?_
  obtain ⟨ep, he'⟩ := PyProof.Rows.sortedAll_at s.heap its out
  have hlen : (ys.map V.str).length ≤ sizeLine := by rw [List.length_map, h2.length_eq]; exact hz
  exact ⟨.ref _, upd H (s.heap.objs.size + 1) (.lst (ys.map V.str)), I.laid (t' := s.toks) (fun _ _ => PyProof.Rows.sortedAll_old) (Nat.le_succ _) ⟨hlen, out.toList, ep, vals_of_strs h1, he'⟩, rfl, q ys _ h2 h3 (I.hok.fresh (Nat.le_succ _))⟩
/-! ### over trees -/
def D.ints : List D → Option (List Int)
  | [] => some []
  | .int b :: ds => (D.ints ds).map (b :: ·)
  | _ :: _ => none
theorem ints_of {K : PySem.W.Frag} {H : Hp} : ∀ {vs : List V} {ds : List D} {bs : List Int}, HasL K H vs ds → D.ints ds = some bs → vs = bs.map V.int
  | _, _, _, .nil, e => by cases e; rfl
  | _, _, bs, .cons (d := d) h t, e => by
    cases h with
    | int b =>
      unfold D.ints at e
      cases q : D.ints _ with
      | none => rw [q] at e; cases e
      | some cs =>
        rw [q] at e
        cases e
        rw [ints_of t q]
        rfl
    | _ => cases e
theorem ints_map : ∀ {zs : List Int}, D.ints (zs.map .int) = some zs
  | [] => rfl
  | z :: zs => by
    show (D.ints (zs.map .int)).map (z :: ·) = _
    rw [ints_map]; rfl
theorem strs_has {K : PySem.W.Frag} {H : Hp} : ∀ ys : List Str, HasL K H (ys.map V.str) (ys.map D.str)
  | [] => .nil
  | y :: ys => .cons (.str y) (strs_has ys)
/-- min, max of a list -/
def minD (mx : Bool) : D1
  | .lst ds, P => (∃ z zs, D.strs ds = some (z :: zs) ∧ P (.str (if mx then PySem.W.maxOf z zs else PySem.W.minOf z zs))) ∨
      ∃ ns, D.ints ds = some ns ∧ 0 < ns.length ∧ ∀ m, m ∈ ns → (∀ y, y ∈ ns → if mx then y ≤ m else m ≤ y) → P (.int m)
  | _, _ => False
theorem b_min (hc : X.calm = true) (hu : X.A.units + 64 < cLine) : CallD X F γ (.builtin "min") (one (minD false)) := by
  intro H0 H σ env c xs ds k Q R h hf hk
  obtain ⟨x, d, rfl, rfl, hx, q⟩ := one_inv h hf
  cases hx with
  | lst h1 h2 =>
    rcases (show _ ∨ _ from q) with ⟨z, zs, e, q⟩ | ⟨ns, e, hn, q⟩
    · exact ⟨_, cr_minS hc hu, _, z, zs, rfl, by rw [← strs_of h2 e]; exact SqL.of (R.core.sub _ _ h1), hk _ _ _ _ q (Same.refl _) R (.str _)⟩
    · exact ⟨_, cr_min hc, _, ns, rfl, by rw [← ints_of h2 e]; exact SqL.of (R.core.sub _ _ h1), hn, fun m a b => hk _ _ _ _ (q m a b) (Same.refl _) R (.int _)⟩
  | _ => exact (show False from q).elim
theorem b_max (hc : X.calm = true) (hu : X.A.units + 64 < cLine) : CallD X F γ (.builtin "max") (one (minD true)) := by
  intro H0 H σ env c xs ds k Q R h hf hk
  obtain ⟨x, d, rfl, rfl, hx, q⟩ := one_inv h hf
  cases hx with
  | lst h1 h2 =>
    rcases (show _ ∨ _ from q) with ⟨z, zs, e, q⟩ | ⟨ns, e, hn, q⟩
    · exact ⟨_, cr_maxS hc hu, _, z, zs, rfl, by rw [← strs_of h2 e]; exact SqL.of (R.core.sub _ _ h1), hk _ _ _ _ q (Same.refl _) R (.str _)⟩
    · exact ⟨_, cr_max hc, _, ns, rfl, by rw [← ints_of h2 e]; exact SqL.of (R.core.sub _ _ h1), hn, fun m a b => hk _ _ _ _ (q m a b) (Same.refl _) R (.int _)⟩
  | _ => exact (show False from q).elim
def sumD : D1
  | .lst ds, P => ∃ ns, D.ints ds = some ns ∧ P (.int ns.sum)
  | _, _ => False
theorem b_sum (hc : X.calm = true) : CallD X F γ (.builtin "sum") (one sumD) := by
  intro H0 H σ env c xs ds k Q R h hf hk
  obtain ⟨x, d, rfl, rfl, hx, q⟩ := one_inv h hf
  cases hx with
  | lst h1 h2 =>
    obtain ⟨ns, e, q⟩ := (show ∃ ns, _ ∧ _ from q)
    exact ⟨_, cr_sum hc, _, ns, rfl, by rw [← ints_of h2 e]; exact SqL.of (R.core.sub _ _ h1), hk _ _ _ _ q (Same.refl _) R (.int _)⟩
  | _ => exact (show False from q).elim
/-- sorted of a list -/
def sortD : D1
  | .lst ds, P => (∃ zs, D.strs ds = some zs ∧ ∀ ys, ys.Perm zs → sortedS ys = true → P (.lst (ys.map .str))) ∨
      ∃ ns, D.ints ds = some ns ∧ ∀ ms : List Int, ms.Perm ns → ms.Pairwise (· ≤ ·) → P (.lst (ms.map .int))
  | _, _ => False
theorem b_sorted : CallD X F γ (.builtin "sorted") (one sortD) := by
  intro H0 H σ env c xs ds k Q R h hf hk
  obtain ⟨x, d, rfl, rfl, hx, q⟩ := one_inv h hf
  cases hx with
  | lst h1 h2 =>
    rcases (show _ ∨ _ from q) with ⟨zs, e, q⟩ | ⟨ns, e, q⟩
    · refine ⟨_, cr_sortedSA, _, zs, rfl, by rw [← strs_of h2 e]; exact SqL.of (R.core.sub _ _ h1), fun ys p a b hp => ?_⟩
      exact hk _ _ _ _ (q ys a b) (Same.new (R.core.sub.free hp)) (R.alloc hp) (.lst upd_same (strs_has ys))
    · refine ⟨_, cr_sortedI, _, ns, rfl, by rw [← ints_of h2 e]; exact SqL.of (R.core.sub _ _ h1), fun ms p a b hp => ?_⟩
      exact hk _ _ _ _ (q ms a b) (Same.new (R.core.sub.free hp)) (R.alloc hp) (.lst upd_same (ints_has ms))
  | _ => exact (show False from q).elim
end
end L2.DL

set_option Elab.async false
set_option linter.all false
set_option autoImplicit false
set_option maxRecDepth 100000
/-! Words in order, names of trees. -/
namespace L2.DL
open PySem PySem.Spec
def ltB : List Bool → List Bool → Bool
  | [], [] => false
  | [], _ :: _ => true
  | _ :: _, [] => false
  | a :: l, b :: m => if a = b then ltB l m else (!a && b)
theorem ltB_bit : ∀ (a b : List Bool), decide (a.map bit < b.map bit) = ltB a b
  | [], [] => by decide
  | [], _ :: _ => by simp [ltB]
  | _ :: _, [] => by simp [ltB]
  | x :: a, y :: b => by
    have ih := ltB_bit a b
    unfold ltB
    rw [List.map_cons, List.map_cons, ← ih]
    rw [Bool.eq_iff_iff, decide_eq_true_iff, List.cons_lt_cons_iff]
    cases x <;> cases y <;> simp [bit]
theorem ltB_S (a b : List Bool) : decide ((S a).cps.toList < (S b).cps.toList) = ltB a b := by rw [S_tl, S_tl, ltB_bit]
theorem ltB_irr : ∀ a : List Bool, ltB a a = false
  | [] => rfl
  | x :: a => by unfold ltB; rw [if_pos rfl, ltB_irr a]
theorem ltB_anti : ∀ a b : List Bool, ltB a b = false → ltB b a = false → a = b
  | [], [], _, _ => rfl
  | [], _ :: _, h, _ => by cases h
  | _ :: _, [], _, h => by cases h
  | x :: a, y :: b, h, h' => by
    unfold ltB at h h'
    by_cases e : x = y
    · subst e
      rw [if_pos rfl] at h h'
      rw [ltB_anti a b h h']
    · rw [if_neg e] at h
      rw [if_neg (Ne.symm e)] at h'
      cases x <;> cases y <;> simp_all
theorem ltB_trans : ∀ a b c : List Bool, ltB a b = true → ltB b c = true → ltB a c = true
  | [], [], _, h, _ => by cases h
  | [], _ :: _, [], _, h => by cases h
  | [], _ :: _, _ :: _, _, _ => rfl
  | _ :: _, [], _, h, _ => by cases h
  | _ :: _, _ :: _, [], _, h => by cases h
  | x :: a, y :: b, z :: c, h, h' => by
    unfold ltB at h h' ⊢
    by_cases e : x = y
    · subst e
      rw [if_pos rfl] at h
      by_cases e2 : x = z
      · subst e2
        rw [if_pos rfl] at h' ⊢
        exact ltB_trans a b c h h'
      · rw [if_neg e2] at h' ⊢
        exact h'
    · rw [if_neg e] at h
      by_cases e2 : y = z
      · subst e2
        rw [if_neg e]
        exact h
      · rw [if_neg e2] at h'
        cases x <;> cases y <;> cases z <;> simp_all
/-- the first of the least -/
def minB (x : List Bool) (xs : List (List Bool)) : List Bool := xs.foldl (fun a y => if ltB y a = true then y else a) x
theorem minOf_S : ∀ (xs : List (List Bool)) (x : List Bool), PySem.W.minOf (S x) (xs.map S) = S (minB x xs)
  | [], x => rfl
  | y :: xs, x => by
    unfold PySem.W.minOf minB
    rw [List.map_cons, List.foldl_cons, List.foldl_cons]
    have e : PySem.W.DatumOrd.lt (S y) (S x) = ltB y x := ltB_S y x
    have := minOf_S xs (if ltB y x = true then y else x)
    unfold PySem.W.minOf minB at this
    rw [← this, e]
    congr 1
    split <;> rfl
theorem minB_spec : ∀ (xs : List (List Bool)) (x : List Bool), minB x xs ∈ x :: xs ∧ ∀ y ∈ x :: xs, ltB y (minB x xs) = false
  | [], x => ⟨List.mem_cons_self, fun y hy => by
    rw [List.mem_singleton.mp hy]
    exact ltB_irr x⟩
  | z :: xs, x => by
    obtain ⟨h1, h2⟩ := minB_spec xs (if ltB z x = true then z else x)
    have e : minB x (z :: xs) = minB (if ltB z x = true then z else x) xs := rfl
    rw [e]
    refine ⟨?_, fun y hy => ?_⟩
    · rcases List.mem_cons.mp h1 with h | h
      · rw [h]
        split
        · exact List.mem_cons_of_mem _ List.mem_cons_self
        · exact List.mem_cons_self
      · exact List.mem_cons_of_mem _ (List.mem_cons_of_mem _ h)
    · have h0 := h2 _ List.mem_cons_self
      generalize minB (if ltB z x = true then z else x) xs = m at h0 h2 ⊢
      rcases List.mem_cons.mp hy with rfl | hy
      · by_cases q : ltB z y = true
        · rw [if_pos q] at h0
          cases q2 : ltB y m with
          | false => rfl
          | true => rw [ltB_trans z y m q q2] at h0; cases h0
        · rw [if_neg q] at h0; exact h0
      · rcases List.mem_cons.mp hy with rfl | hy
        · by_cases q : ltB y x = true
          · rw [if_pos q] at h0; exact h0
          · rw [if_neg q] at h0
            cases q2 : ltB y m with
            | false => rfl
            | true =>
              by_cases q3 : ltB x y = true
              · rw [ltB_trans x y m q3 q2] at h0; cases h0
              · have := ltB_anti y x (by simpa using q) (by simpa using q3)
                rw [this, h0] at q2; cases q2
        · exact h2 y (List.mem_cons_of_mem _ hy)
/-- the least of some words -/
def leastW : List (List Bool) → List Bool
  | [] => []
  | x :: xs => minB x xs
theorem leastW_spec {ls : List (List Bool)} (h : ls ≠ []) : leastW ls ∈ ls ∧ ∀ y ∈ ls, ltB y (leastW ls) = false := by
  cases ls with
  | nil => exact absurd rfl h
  | cons x xs => exact minB_spec xs x
theorem leastW_of {ls : List (List Bool)} {m : List Bool} (h : m ∈ ls) (k : ∀ y ∈ ls, ltB y m = false) : leastW ls = m := by
  have hn : ls ≠ [] := fun e => by rw [e] at h; cases h
  obtain ⟨h1, h2⟩ := leastW_spec hn
  exact ltB_anti _ _ (k _ h1) (h2 _ h)
theorem leastW_eq {ls ms : List (List Bool)} (h : ls ≠ []) (k : ∀ y, y ∈ ls ↔ y ∈ ms) : leastW ls = leastW ms := by
  have hn : ms ≠ [] := fun e => by
    cases ls with
    | nil => exact h rfl
    | cons x xs => have := (k x).mp List.mem_cons_self; rw [e] at this; cases this
  obtain ⟨h1, h2⟩ := leastW_spec hn
  exact leastW_of ((k _).mpr h1) fun y hy => h2 y ((k y).mp hy)
theorem minD_S {ls : List (List Bool)} {P : D → Prop} (h : ls ≠ []) (k : P (.str (S (leastW ls)))) : minD false (.lst (ls.map fun l => .str (S l))) P := by
  cases ls with
  | nil => exact absurd rfl h
  | cons x xs =>
    refine .inl ⟨S x, xs.map S, by have := strs_S (x :: xs); exact this, ?_⟩
    show P (.str (PySem.W.minOf (S x) (xs.map S)))
    rw [minOf_S]
    exact k
/-! ### names -/
theorem mem_turns {w y : List Bool} (h : dy 0 w = true) (hn : w ≠ []) : y ∈ turns w ↔ ∃ k, y = iter turn k w := by
  unfold turns
  rw [List.mem_map]
  constructor
  · rintro ⟨k, _, e⟩
    exact ⟨k, e.symm⟩
  · rintro ⟨k, e⟩
    exact ⟨k % per w, List.mem_range.mpr (Nat.mod_lt _ (per_pos w)), by rw [iter_mod h hn, e]⟩
theorem self_turns (w : List Bool) : w ∈ turns w := by
  unfold turns
  exact List.mem_map.mpr ⟨0, List.mem_range.mpr (per_pos w), rfl⟩
theorem turns_ne (w : List Bool) : turns w ≠ [] := fun e => by
  have := self_turns w
  rw [e] at this
  cases this
theorem turns_dy {w y : List Bool} (h : dy 0 w = true) (hn : w ≠ []) (hy : y ∈ turns w) : dy 0 y = true ∧ y ≠ [] ∧ y.length = w.length := by
  obtain ⟨k, rfl⟩ := (mem_turns h hn).mp hy
  exact dy_iter h hn k
theorem turns_wok {w y : List Bool} (h : wok w = true) (hy : y ∈ turns w) : wok y = true := by
  obtain ⟨h1, h2, h3⟩ := wok_iff.mp h
  obtain ⟨k, rfl⟩ := (mem_turns h1 (wok_ne h)).mp hy
  exact wok_iter h k
theorem turns_sym {w y : List Bool} (h : dy 0 w = true) (hn : w ≠ []) (hy : y ∈ turns w) : w ∈ turns y := by
  obtain ⟨d1, d2, d3⟩ := turns_dy h hn hy
  obtain ⟨k, rfl⟩ := (mem_turns h hn).mp hy
  refine (mem_turns d1 d2).mpr ⟨k * per w - k, ?_⟩
  rw [← iter_add, show k + (k * per w - k) = k * per w + 0 by have := Nat.le_mul_of_pos_right k (per_pos w); omega, iter_per h hn]
  rfl
theorem turns_trans {w y z : List Bool} (h : dy 0 w = true) (hn : w ≠ []) (hy : y ∈ turns w) (hz : z ∈ turns y) : z ∈ turns w := by
  obtain ⟨d1, d2, d3⟩ := turns_dy h hn hy
  obtain ⟨k, rfl⟩ := (mem_turns h hn).mp hy
  obtain ⟨j, rfl⟩ := (mem_turns d1 d2).mp hz
  exact (mem_turns h hn).mpr ⟨k + j, by rw [iter_add]⟩
theorem turns_same {w y : List Bool} (h : dy 0 w = true) (hn : w ≠ []) (hy : y ∈ turns w) (z : List Bool) : z ∈ turns y ↔ z ∈ turns w := by
  obtain ⟨d1, d2, d3⟩ := turns_dy h hn hy
  exact ⟨fun hz => turns_trans h hn hy hz, fun hz => turns_trans d1 d2 (turns_sym h hn hy) hz⟩
def nm (w : List Bool) : List Bool := leastW (turns w)
theorem nm_mem (w : List Bool) : nm w ∈ turns w := (leastW_spec (turns_ne w)).1
theorem nm_turn {w y : List Bool} (h : dy 0 w = true) (hn : w ≠ []) (hy : y ∈ turns w) : nm y = nm w := leastW_eq (turns_ne y) (turns_same h hn hy)
theorem nm_nm {w : List Bool} (h : dy 0 w = true) (hn : w ≠ []) : nm (nm w) = nm w := nm_turn h hn (nm_mem w)
theorem nm_wok {w : List Bool} (h : wok w = true) : wok (nm w) = true := turns_wok h (nm_mem w)
theorem nm_iff {x y : List Bool} (hx : dy 0 x = true) (nx : x ≠ []) (hy : dy 0 y = true) (ny : y ≠ []) : nm x = nm y ↔ x ∈ turns y := by
  constructor
  · intro e
    have h1 := nm_mem x
    rw [e] at h1
    have h2 := turns_sym hx nx h1
    exact turns_trans hy ny (nm_mem y) h2
  · exact fun h => nm_turn hy ny h
theorem per_turn {w y : List Bool} (h : dy 0 w = true) (hn : w ≠ []) (hy : y ∈ turns w) : per y = per w := by
  obtain ⟨d1, d2, d3⟩ := turns_dy h hn hy
  have key : ∀ {a b : List Bool}, dy 0 a = true → a ≠ [] → b ∈ turns a → per b ≤ per a := by
    intro a b ha na hb
    obtain ⟨e1, e2, _⟩ := turns_dy ha na hb
    obtain ⟨k, rfl⟩ := (mem_turns ha na).mp hb
    obtain ⟨p1, p2, p3⟩ := per_spec e1 e2
    have p0 := per_pos a
    by_cases q : per (iter turn k a) ≤ per a
    · exact q
    · refine absurd ?_ (p3 (per a) p0 (by omega))
      rw [← iter_add, show k + per a = 1 * per a + k by omega, iter_per ha na]
  have a := key h hn hy
  have b := key d1 d2 (turns_sym h hn hy)
  omega
/-! ### mirrored -/
theorem iter_back : ∀ (k : Nat) {w : List Bool}, dy 0 w = true → w ≠ [] → iter back k w ∈ turns w
  | 0, w, h, hn => self_turns w
  | k + 1, w, h, hn => by
    have hb : back w ∈ turns w := (mem_turns h hn).mpr ⟨w.length - 1, rfl⟩
    obtain ⟨d1, d2, _⟩ := turns_dy h hn hb
    exact turns_trans h hn hb (iter_back k d1 d2)
theorem mir_ne {w : List Bool} (hn : w ≠ []) : mir w ≠ [] := fun e => by
  have := mir_len w
  rw [e] at this
  exact hn (List.eq_nil_of_length_eq_zero this.symm)
theorem mir_iter : ∀ (k : Nat) {w : List Bool}, dy 0 w = true → w ≠ [] → mir (iter turn k w) = iter back k (mir w)
  | 0, w, _, _ => rfl
  | k + 1, w, h, hn => by
    obtain ⟨d1, d2, _⟩ := dy_turn h hn
    show mir (iter turn k (turn w)) = iter back k (back (mir w))
    rw [mir_iter k d1 d2, mir_turn h hn]
theorem mir_turns {w y : List Bool} (h : dy 0 w = true) (hn : w ≠ []) (hy : y ∈ turns w) : mir y ∈ turns (mir w) := by
  obtain ⟨k, rfl⟩ := (mem_turns h hn).mp hy
  rw [mir_iter k h hn]
  exact iter_back k (dy_mir _ w (Nat.le_refl _) h) (mir_ne hn)
theorem mir_turns_iff {w y : List Bool} (h : dy 0 w = true) (hn : w ≠ []) : mir y ∈ turns (mir w) ↔ y ∈ turns w := by
  refine ⟨fun q => ?_, mir_turns h hn⟩
  have := mir_turns (dy_mir _ w (Nat.le_refl _) h) (mir_ne hn) q
  rwa [mir_mir, mir_mir] at this
theorem per_mir {w : List Bool} (h : dy 0 w = true) (hn : w ≠ []) : per (mir w) = per w := by
  have key : ∀ {a : List Bool}, dy 0 a = true → a ≠ [] → per (mir a) ≤ per a := by
    intro a ha na
    have hm := dy_mir _ a (Nat.le_refl _) ha
    have nm' := mir_ne na
    obtain ⟨p1, p2, p3⟩ := per_spec hm nm'
    obtain ⟨q1, q2, q3⟩ := per_spec ha na
    have p0 := per_pos a
    by_cases q : per (mir a) ≤ per a
    · exact q
    · refine absurd ?_ (p3 (per a) p0 (by omega))
      have e : iter back (per a) (mir a) = mir a := by rw [← mir_iter _ ha na, q2]
      have undo : ∀ (k : Nat) (b : List Bool), dy 0 b = true → b ≠ [] → iter turn k (iter back k b) = b := by
        intro k
        induction k with
        | zero => intro b _ _; rfl
        | succ k ih =>
          intro b hb nb
          have hbb : back b ∈ turns b := (mem_turns hb nb).mpr ⟨b.length - 1, rfl⟩
          obtain ⟨d1, d2, _⟩ := turns_dy hb nb hbb
          show iter turn (k + 1) (iter back k (back b)) = b
          rw [iter_succ, ih _ d1 d2, turn_back hb nb]
      have := undo (per a) (mir a) hm nm'
      rwa [e] at this
  have a := key h hn
  have b := key (dy_mir _ w (Nat.le_refl _) h) (mir_ne hn)
  rw [mir_mir] at b
  omega
/-! ### the star -/
def starW (p : Nat) : List Bool := (List.replicate p [true, false]).flatten
theorem starW_succ (p : Nat) : starW (p + 1) = true :: false :: starW p := by
  unfold starW
  rw [List.replicate_succ, List.flatten_cons]
  rfl
theorem starW_dy : ∀ p, dy 0 (starW p) = true
  | 0 => rfl
  | p + 1 => by rw [starW_succ]; exact starW_dy p
theorem starW_len : ∀ p, (starW p).length = 2 * p
  | 0 => rfl
  | p + 1 => by rw [starW_succ, List.length_cons, List.length_cons, starW_len p]; omega
theorem starW_least : ∀ (p : Nat) (w : List Bool), dy 0 w = true → w.length = 2 * p → ltB w (starW p) = false
  | 0, w, _, hl => by
    have : w = [] := List.eq_nil_of_length_eq_zero hl
    rw [this]; rfl
  | p + 1, [], _, hl => by simp at hl
  | p + 1, [_], _, hl => by simp at hl; omega
  | p + 1, false :: _ :: _, h, _ => by cases h
  | p + 1, true :: true :: w, h, hl => by rw [starW_succ]; rfl
  | p + 1, true :: false :: w, h, hl => by
    rw [starW_succ]
    show ltB w (starW p) = false
    exact starW_least p w h (by simp at hl; omega)
theorem nm_star {p : Nat} (hp : 1 ≤ p) : nm (starW p) = starW p := by
  have hn : starW p ≠ [] := fun e => by
    have := starW_len p
    rw [e] at this
    simp at this
    omega
  refine leastW_of (self_turns _) fun y hy => ?_
  obtain ⟨d1, _, d3⟩ := turns_dy (starW_dy p) hn hy
  exact starW_least p y d1 (by rw [d3, starW_len])
theorem inB_S (l : List Bool) : ∀ ls : List (List Bool), inB (.str (S l)) (ls.map fun x => .str (S x)) = decide (l ∈ ls)
  | [] => by simp [inB]
  | x :: xs => by
    have ih := inB_S l xs
    unfold inB at ih ⊢
    rw [List.map_cons, List.any_cons, ih, eqb_s, S_beq, Bool.eq_iff_iff]
    simp only [Bool.or_eq_true, beq_iff_eq, decide_eq_true_eq, List.mem_cons]
    exact ⟨fun h => h.elim (fun e => .inl e.symm) .inr, fun h => h.elim (fun e => .inl e.symm) .inr⟩
theorem scal_S (ls : List (List Bool)) : (ls.map fun x => D.str (S x)).all D.scalar = true := by
  rw [List.all_map, List.all_eq_true]
  intro x _
  rfl
end L2.DL

set_option Elab.async false
set_option linter.all false
set_option autoImplicit false
set_option maxRecDepth 100000
/-! Beginnings of texts; lists of ints. -/
namespace L2.DL
open PySem PySem.Spec
theorem S_sw (a b : List Bool) : Txt.startswith (S a) (S b) = (a.take b.length == b) := by
  unfold Txt.startswith
  rw [StrLaws.subAt_eq, S_tl, S_tl, S_len, S_len, List.drop_zero, Bool.eq_iff_iff]
  simp only [Bool.and_eq_true, decide_eq_true_eq, beq_iff_eq]
  constructor
  · rintro ⟨_, h⟩
    rw [← List.map_take] at h
    exact map_bit_inj h
  · intro h
    refine ⟨?_, by rw [← List.map_take, h]⟩
    have := congrArg List.length h
    rw [List.length_take] at this
    omega
/-- a list of numbers -/
def N (ns : List Nat) : List D := ns.map fun n => .int (n : Nat)
theorem N_len (ns : List Nat) : (N ns).length = ns.length := by simp [N]
theorem N_app (a b : List Nat) : N a ++ N b = N (a ++ b) := by simp [N]
theorem N_one (n : Nat) : [D.int (n : Nat)] = N [n] := rfl
theorem N_get {ns : List Nat} {i n : Nat} (h : ns[i]? = some n) : atI (N ns) (i : Int) = some (.int (n : Nat)) := atI_nat (by unfold N; rw [List.getElem?_map, h]; rfl)
instance {k : Nat} {ns : List Nat} : DkL k (N ns) := dkl_of fun d hd => by
  unfold N at hd
  obtain ⟨n, _, rfl⟩ := List.mem_map.mp hd
  infer_instance
end L2.DL

set_option Elab.async false
set_option linter.all false
set_option autoImplicit false
set_option maxRecDepth 100000
/-! Statements' words, opened by equations (the kernel then need not unfold what follows). -/
namespace L2.DL
open PySem PySem.Spec
section
variable {E : WEnds} {env : List Sl} {c : Nat} {a b : WS} {w : WE} {t : WT} {i j l : Nat} {wa : WA} {wi : WI} {wo : WAO} {g g2 : WG} {is : List Nat}
theorem e_Next : wNext E env c = E.nx env c := rfl
theorem e_Seq : wSeq a b E env c = a { E with nx := fun env' c' => b E env' c' } env c := rfl
theorem e_Pass : wPass E env c = E.nx env c := rfl
theorem e_Brk : wBrk E env c = E.bk env c := rfl
theorem e_Cnt : wCnt E env c = E.ct env c := rfl
theorem e_Set : wSet i w E env c = w env c fun d c1 => E.nx (env.set i (.val d)) c1 := rfl
theorem e_Ret : wRet w E env c = w env c E.rt := rfl
theorem e_RetN : wRetN E env c = E.rt .non c := rfl
theorem e_Drop : wDrop w E env c = w env c fun _ c1 => E.nx env c1 := rfl
theorem e_IfS : wIfS t a b E env c = t env c fun k c1 => if k = true then a E env c1 else b E env c1 := rfl
theorem e_Frz : wFrz i a E env c = ∃ ds, env[i]? = some (.own ds) ∧ a E (env.set i (.val (.lst ds))) c := rfl
theorem e_Never : wNever E env c = False := rfl
theorem e_Par : wPar i j wa E env c = wa env c fun ds c1 => ∃ x y, ds = [x, y] ∧ E.nx ((env.set i (.val x)).set j (.val y)) c1 := rfl
theorem e_Par3 : wPar3 i j l wa E env c = wa env c fun ds c1 => ∃ x y z, ds = [x, y, z] ∧ E.nx (((env.set i (.val x)).set j (.val y)).set l (.val z)) c1 := rfl
theorem e_Asg : wAsg w g E env c = w env c fun d c1 => g d env fun env' => E.nx env' c1 := rfl
theorem e_Asg2 : wAsg2 w g g2 E env c = w env c fun d c1 => g d env fun env1 => g2 d env1 fun env2 => E.nx env2 c1 := rfl
theorem e_For : wFor wi g a E env c = wi env c fun ds c1 => forW g a ds E env c1 := rfl
theorem e_SetO : wSetO i wi E env c = wi env c fun ds c1 => E.nx (env.set i (.own ds)) c1 := rfl
theorem e_SetL : wSetL i wi E env c = wi env c fun ds c1 => E.nx (env.set i (.val (.lst ds))) c1 := rfl
theorem e_App : wApp i w E env c = ∃ ds, env[i]? = some (.own ds) ∧ w env c fun d c1 => ds.length < sizeLine ∧ E.nx (env.set i (.own (ds ++ [d]))) c1 := rfl
theorem e_Pop : wPop i E env c = ∃ ds d, env[i]? = some (.own ds) ∧ ds.getLast? = some d ∧ E.nx (env.set i (.own ds.dropLast)) c := rfl
theorem e_PopTo : wPopTo j i E env c = ∃ ds d, env[i]? = some (.own ds) ∧ ds.getLast? = some d ∧ E.nx ((env.set i (.own ds.dropLast)).set j (.val d)) c := rfl
theorem e_SetIt {u : WE} : wSetO' i u w E env c = w env c fun d c1 => ∃ ds, env[i]? = some (.own ds) ∧ u env c1 fun j c2 => ∃ n k, j = .int n ∧ ixN ds.length n = some k ∧ E.nx (env.set i (.own (ds.set k d))) c2 := rfl
theorem e_ParO : wParO is wo E env c = wo env c fun as c1 => as.length = is.length ∧ E.nx (setA env is as) c1 := rfl
theorem e_Open : wOpen i a E env c = (env[i]? = some .gau ∧ ∀ cs x r, (∀ d ∈ cs, ∃ n, d = D.int n) → 0 ≤ x → x ≤ (c : Int) → 0 ≤ r → a E (env.set i (.gx cs x r)) (c + 1)) := rfl
theorem e_GxSet {k : Int} : wGxSet i k w E env c = w env c fun d c1 => ∃ cs a r n, env[i]? = some (.gx cs a r) ∧ d = .int n ∧ 0 ≤ n ∧ ((k = 1 ∧ E.nx (env.set i (.gx cs n r)) (max c1 n.toNat)) ∨ (k = 2 ∧ E.nx (env.set i (.gx cs a n)) c1)) := rfl
end
end L2.DL

set_option Elab.async false
set_option linter.all false
set_option autoImplicit false
set_option maxRecDepth 100000
/-! Defs that call themselves; in, not in over a list that a slot owns. -/
namespace L2.DL
open PySem PySem.Spec PyProof.Rows
section
variable {P : Program} {w : World} {K : PySem.W.Frag} {mg : Str → Option Value} {base : Heap} {f : Addr} {fd : FuncData} {ps : List Str} {k n : Nat} {TB : List (Addr × Str)}
theorem fnG_no : FnG P w K mg base CX0 k f fd ps (spG K TB n fun _ _ _ => False) :=
  ⟨fun vs H Q E h => by obtain ⟨F, g, gr, us, H0, ds, c, P, _, _, _, _, hT, _⟩ := h; exact hT.elim, fun A out s H ar us vs Q E _ _ _ _ _ h => by obtain ⟨F, g, gr, us, H0, ds, c, P, _, _, _, _, hT, _⟩ := h; exact hT.elim⟩
theorem fnP_no : FnG P w K mg base CX0 k f fd ps (spP K TB n fun _ _ => False) :=
  ⟨fun vs H Q E h => by obtain ⟨F, gr, H0, ds, P, _, _, _, hT, _⟩ := h; exact hT.elim, fun A out s H ar us vs Q E _ _ _ _ _ h => by obtain ⟨F, gr, H0, ds, P, _, _, _, hT, _⟩ := h; exact hT.elim⟩
end
section
variable {X : Cx} {F : Hp} {γ : Gm} {pos : Pos}
/-- e in xs, e not in xs; xs of slot i -/
def wInO (neg : Bool) (i : Nat) (w : WE) : WT := fun env c P => w env c fun d c1 => ∃ ds, env[i]? = some (.own ds) ∧ d.scalar = true ∧ ds.all D.scalar = true ∧ P (if neg then !inB d ds else inB d ds) c1
theorem dtInO (i : Nat) {e x : Expr} {we : WE} (he : PE X e (tG X.K F γ we)) (hx : PE X x (tVar i)) (hm : behindInMarks .In x = false) : PT X (.Compare e [.In] [x] pos) (tT X.K F γ (wInO false i we)) := by
  refine ⟨fun pins s σ H Q I h => ?_⟩
  obtain ⟨H0, env, c, P, R, q, k⟩ := h
  have h' : tG X.K F γ we σ H fun x1 H1 => ∃ a vs, σ[i]? = some (some (.ref a)) ∧ SqL X.K H1 a vs ∧ flatV x1 = true ∧ vs.all flatV = true ∧ Q (inV x1 vs) H1 :=
    ⟨H0, env, c, _, R, q, fun d c1 v H1 H01 ⟨ds, e1, s1, s2, q1⟩ ss R1 h1 => by
      obtain ⟨a, vs, a0, a1, v1, z1⟩ := R1.own_at e1
      refine ⟨a, vs, a0, SqL.of a1, scalar_flat h1 s1, scalars_flat v1 s2, ?_⟩
      rw [inV_of h1 s1 v1 s2]
      exact k _ _ _ _ q1 ss R1⟩
  refine wpAny_isTrue_Compare1 (thn (he.run pins s σ H _ I h') fun v s1 ⟨x1, H1, I1, r1, a, vs, a0, hS, f1, f2, q1⟩ => thn (hx.run pins s1 σ H1 (fun y H2 => y = .ref a ∧ H2 = H1) I1 ⟨.ref a, a0, rfl, rfl⟩) fun u s2 ⟨y, H2, I2, r2, ey, eH⟩ => ?_) hm
  subst ey eH
  refine thn (op_in_seq pins s2 σ H2 x1 (.ref a) v u (fun z H' => z = .bl (inV x1 vs) ∧ H' = H2) I2 r1 r2 ⟨a, vs, rfl, .inl hS, f1, f2, by rw [if_neg Bool.false_ne_true]; exact ⟨rfl, rfl⟩⟩) fun c s3 ⟨z, H3, I3, r3, ez, eH⟩ => ?_
  subst ez eH
  cases r3
  exact wpAny_truthy_bool ⟨H3, I3, q1⟩
theorem dtNotinO (i : Nat) {e x : Expr} {we : WE} (he : PE X e (tG X.K F γ we)) (hx : PE X x (tVar i)) (hm : behindInMarks .NotIn x = false) : PT X (.Compare e [.NotIn] [x] pos) (tT X.K F γ (wInO true i we)) := by
  refine ⟨fun pins s σ H Q I h => ?_⟩
  obtain ⟨H0, env, c, P, R, q, k⟩ := h
  have h' : tG X.K F γ we σ H fun x1 H1 => ∃ a vs, σ[i]? = some (some (.ref a)) ∧ SqL X.K H1 a vs ∧ flatV x1 = true ∧ vs.all flatV = true ∧ Q (!inV x1 vs) H1 :=
    ⟨H0, env, c, _, R, q, fun d c1 v H1 H01 ⟨ds, e1, s1, s2, q1⟩ ss R1 h1 => by
      obtain ⟨a, vs, a0, a1, v1, z1⟩ := R1.own_at e1
      refine ⟨a, vs, a0, SqL.of a1, scalar_flat h1 s1, scalars_flat v1 s2, ?_⟩
      rw [inV_of h1 s1 v1 s2]
      exact k _ _ _ _ q1 ss R1⟩
  refine wpAny_isTrue_Compare1 (thn (he.run pins s σ H _ I h') fun v s1 ⟨x1, H1, I1, r1, a, vs, a0, hS, f1, f2, q1⟩ => thn (hx.run pins s1 σ H1 (fun y H2 => y = .ref a ∧ H2 = H1) I1 ⟨.ref a, a0, rfl, rfl⟩) fun u s2 ⟨y, H2, I2, r2, ey, eH⟩ => ?_) hm
  subst ey eH
  refine thn (op_notIn_seq pins s2 σ H2 x1 (.ref a) v u (fun z H' => z = .bl (!inV x1 vs) ∧ H' = H2) I2 r1 r2 ⟨a, vs, rfl, .inl hS, f1, f2, by rw [if_pos rfl]; exact ⟨rfl, rfl⟩⟩) fun c s3 ⟨z, H3, I3, r3, ez, eH⟩ => ?_
  subst ez eH
  cases r3
  exact wpAny_truthy_bool ⟨H3, I3, q1⟩
end
end L2.DL

set_option Elab.async false
set_option linter.all false
set_option autoImplicit false
set_option maxRecDepth 100000
/-! Rows of lamps moved around; homes of states. -/
namespace L2.DL
open PySem PySem.Spec
def rot (l : List Bool) (m : Int) : List Bool := l.drop (l.length - (m % (l.length : Nat)).toNat) ++ l.take (l.length - (m % (l.length : Nat)).toNat)
theorem rot_len (l : List Bool) (m : Int) : (rot l m).length = l.length := by
  unfold rot
  rw [List.length_append, List.length_drop, List.length_take]
  omega
theorem rot_count (l : List Bool) (m : Int) (b : Bool) : (rot l m).count b = l.count b := by
  unfold rot
  rw [List.count_append, Nat.add_comm, ← List.count_append, List.take_append_drop]
theorem rot_mod (l : List Bool) (m : Int) : rot l (m % (l.length : Nat)) = rot l m := by
  unfold rot
  rw [Int.emod_emod_of_dvd _ (Int.dvd_refl _)]
theorem rot_get {l : List Bool} (hl : 0 < l.length) (m : Int) {i : Nat} (hi : i < l.length) : (rot l m)[i]? = l[(((i : Nat) - m) % (l.length : Nat)).toNat]? := by
  have h0 := Int.emod_nonneg m (show ((l.length : Nat) : Int) ≠ 0 by omega)
  have h1 := Int.emod_lt_of_pos m (show (0 : Int) < (l.length : Nat) by omega)
  have e0 : ((i : Int) - m) % (l.length : Nat) = ((i : Int) - m % (l.length : Nat)) % (l.length : Nat) := by
    rw [Int.sub_emod, Int.sub_emod (i : Int) (m % _), Int.emod_emod_of_dvd _ (Int.dvd_refl _)]
  unfold rot
  rw [e0]
  generalize m % (l.length : Nat) = q at h0 h1 ⊢
  obtain ⟨k, rfl⟩ : ∃ k : Nat, q = (k : Int) := ⟨q.toNat, by omega⟩
  rw [Int.toNat_natCast]
  by_cases h : i < k
  · rw [List.getElem?_append_left (by rw [List.length_drop]; omega), List.getElem?_drop]
    have : ((i : Int) - k) % (l.length : Nat) = (i : Int) - k + (l.length : Nat) := by
      rw [← Int.add_emod_right, Int.emod_eq_of_lt (by omega) (by omega)]
    rw [this]
    congr 1
    omega
  · rw [List.getElem?_append_right (by rw [List.length_drop]; omega), List.length_drop, List.getElem?_take_of_lt (by omega)]
    have : ((i : Int) - k) % (l.length : Nat) = (i : Int) - k := Int.emod_eq_of_lt (by omega) (by omega)
    rw [this]
    congr 1
    omega
theorem rot_ext {l m : List Bool} {a b : Int} (hl : l.length = m.length) (h0 : 0 < l.length) (h : ∀ i : Nat, i < l.length → l[(((i : Nat) - a) % (l.length : Nat)).toNat]? = m[(((i : Nat) - b) % (m.length : Nat)).toNat]?) : rot l a = rot m b := by
  apply List.ext_getElem?
  intro i
  by_cases hi : i < l.length
  · rw [rot_get h0 a hi, rot_get (by omega) b (by omega)]
    exact h i hi
  · rw [List.getElem?_eq_none (by rw [rot_len]; omega), List.getElem?_eq_none (by rw [rot_len]; omega)]
theorem rot_rot {l : List Bool} (h0 : 0 < l.length) (a b : Int) : rot (rot l a) b = rot l (a + b) := by
  apply List.ext_getElem?
  intro i
  by_cases hi : i < l.length
  · have hl := rot_len l a
    rw [rot_get (by omega) b (by omega), hl]
    have h1 := Int.emod_nonneg ((i : Int) - b) (show ((l.length : Nat) : Int) ≠ 0 by omega)
    have h2 := Int.emod_lt_of_pos ((i : Int) - b) (show (0 : Int) < (l.length : Nat) by omega)
    rw [rot_get h0 a (show (((i : Int) - b) % (l.length : Nat)).toNat < l.length by omega), rot_get h0 (a + b) hi]
    congr 2
    rw [Int.toNat_of_nonneg h1, show (i : Int) - (a + b) = ((i : Int) - b) - a by omega, Int.sub_emod, Int.emod_emod_of_dvd _ (Int.dvd_refl _), ← Int.sub_emod]
  · rw [List.getElem?_eq_none (by rw [rot_len, rot_len]; omega), List.getElem?_eq_none (by rw [rot_len]; omega)]
theorem rot_0 (l : List Bool) : rot l 0 = l := by
  unfold rot
  rw [Int.zero_emod]
  simp
theorem rot_full (l : List Bool) : rot l (l.length : Nat) = l := by
  rw [← rot_mod, Int.emod_self, rot_0]
theorem rot_split {x y : List Bool} (hy : y.length ≠ 0) : rot (x ++ y) (y.length : Nat) = y ++ x := by
  by_cases h : x = []
  · subst h
    rw [List.nil_append, rot_full, List.append_nil]
  · have hx : 0 < x.length := by cases x with | nil => exact absurd rfl h | cons _ _ => simp
    unfold rot
    rw [List.length_append, Int.emod_eq_of_lt (by omega) (by omega), Int.toNat_natCast, Nat.add_sub_cancel, List.drop_append_of_le_length (Nat.le_refl _), List.drop_length, List.take_append_of_le_length (Nat.le_refl _), List.take_length]
    rfl
theorem rot_back {l : List Bool} (h0 : 0 < l.length) (a : Int) : rot (rot l a) (-a) = l := by
  rw [rot_rot h0, Int.add_right_neg, rot_0]
/-! ### heights -/
def ht : Nat → List Bool → Option Nat
  | d, [] => some d
  | d, true :: l => ht (d + 1) l
  | 0, false :: _ => none
  | d + 1, false :: l => ht d l
theorem ht_app : ∀ (x y : List Bool) (d : Nat), ht d (x ++ y) = (ht d x).bind fun e => ht e y
  | [], _, _ => rfl
  | true :: x, y, d => ht_app x y (d + 1)
  | false :: _, _, 0 => rfl
  | false :: x, y, d + 1 => ht_app x y d
theorem dy_ht : ∀ (l : List Bool) (d : Nat), dy d l = true ↔ ht d l = some 0
  | [], d => by simp [dy, ht]
  | true :: l, d => dy_ht l (d + 1)
  | false :: l, 0 => by simp [dy, ht]
  | false :: l, d + 1 => dy_ht l d
theorem ht_cut {w : List Bool} (h : dy 0 w = true) (i : Nat) : ∃ e, ht 0 (w.take i) = some e ∧ ht e (w.drop i) = some 0 := by
  have := (dy_ht w 0).mp h
  rw [← List.take_append_drop i w, ht_app] at this
  cases q : ht 0 (w.take i) with
  | none => rw [q] at this; cases this
  | some e => rw [q] at this; exact ⟨e, rfl, this⟩
/-- where it is lowest first -/
def lowb : Nat → Int → Int → Nat → List Bool → Nat
  | _, _, _, b, [] => b
  | k, d, m, b, s :: l => if d + (if s then 1 else -1) < m then lowb (k + 1) (d + (if s then 1 else -1)) (d + (if s then 1 else -1)) (k + 1) l else lowb (k + 1) (d + (if s then 1 else -1)) m b l
theorem lowb_up : ∀ (x : List Bool) (k : Nat) (d m : Int) (b e e' : Nat), ht e x = some e' → m ≤ d - e → lowb k d m b x = b
  | [], _, _, _, _, _, _, _, _ => rfl
  | true :: x, k, d, m, b, e, e', h, hm => by
    have e0 : lowb k d m b (true :: x) = if d + 1 < m then lowb (k + 1) (d + 1) (d + 1) (k + 1) x else lowb (k + 1) (d + 1) m b x := rfl
    rw [e0, if_neg (by omega)]
    exact lowb_up x _ _ _ _ (e + 1) e' h (by omega)
  | false :: x, k, d, m, b, 0, e', h, hm => by cases h
  | false :: x, k, d, m, b, e + 1, e', h, hm => by
    have e0 : lowb k d m b (false :: x) = if d + -1 < m then lowb (k + 1) (d + -1) (d + -1) (k + 1) x else lowb (k + 1) (d + -1) m b x := rfl
    rw [e0, if_neg (by omega)]
    exact lowb_up x _ _ _ _ e e' h (by omega)
theorem lowb_down : ∀ (y r : List Bool) (k : Nat) (d m : Int) (b h : Nat), ht h y = some 0 → d - h ≤ m → lowb k d m b (y ++ false :: r) = lowb (k + y.length + 1) (d - h - 1) (d - h - 1) (k + y.length + 1) r
  | [], r, k, d, m, b, h, hh, hm => by
    have : h = 0 := by
      have q : some h = some 0 := hh
      cases q; rfl
    subst this
    have e0 : lowb k d m b ([] ++ false :: r) = if d + -1 < m then lowb (k + 1) (d + -1) (d + -1) (k + 1) r else lowb (k + 1) (d + -1) m b r := rfl
    rw [e0, if_pos (by omega), show d - ((0 : Nat) : Int) - 1 = d + -1 by omega]
    rfl
  | true :: y, r, k, d, m, b, h, hh, hm => by
    have e0 : lowb k d m b (true :: y ++ false :: r) = if d + 1 < m then lowb (k + 1) (d + 1) (d + 1) (k + 1) (y ++ false :: r) else lowb (k + 1) (d + 1) m b (y ++ false :: r) := rfl
    have e1 : k + (true :: y).length + 1 = k + 1 + y.length + 1 := by rw [List.length_cons]; omega
    rw [e0, e1, show d - (h : Int) - 1 = d + 1 - ((h + 1 : Nat) : Int) - 1 by omega]
    split
    · exact lowb_down y r _ _ _ _ (h + 1) hh (by omega)
    · exact lowb_down y r _ _ _ _ (h + 1) hh (by omega)
  | false :: y, r, k, d, m, b, 0, hh, hm => by cases hh
  | false :: y, r, k, d, m, b, h + 1, hh, hm => by
    have e0 : lowb k d m b (false :: y ++ false :: r) = if d + -1 < m then lowb (k + 1) (d + -1) (d + -1) (k + 1) (y ++ false :: r) else lowb (k + 1) (d + -1) m b (y ++ false :: r) := rfl
    have e1 : k + (false :: y).length + 1 = k + 1 + y.length + 1 := by rw [List.length_cons]; omega
    rw [e0, e1, show d - ((h + 1 : Nat) : Int) - 1 = d + -1 - ((h : Nat) : Int) - 1 by omega]
    split
    · exact lowb_down y r _ _ _ _ h hh (by omega)
    · exact lowb_down y r _ _ _ _ h hh (by omega)
/-- a state by its home -/
def st (w : List Bool) (k : Int) (b : Bool) : List Bool := rot (w ++ [b]) k
theorem st_len (w : List Bool) (k : Int) (b : Bool) : (st w k b).length = w.length + 1 := by
  unfold st
  rw [rot_len, List.length_append]
  rfl
theorem low_home {w : List Bool} (h : dy 0 w = true) {k : Nat} (hk : k ≤ w.length) :
    lowb 0 0 0 0 (st w k false) % (w.length + 1) = k ∧ rot (st w k false) (-((lowb 0 0 0 0 (st w k false) : Nat) : Int)) = w ++ [false] := by
  obtain ⟨j, hj, hj2, hjk⟩ : ∃ j : Nat, j ≤ w.length ∧ st w k false = w.drop j ++ [false] ++ w.take j ∧ (w.length + 1 - j) % (w.length + 1) = k ∧ rot (st w k false) (-((w.length + 1 - j : Nat) : Int)) = w ++ [false] := by
    by_cases h0 : k = 0
    · subst h0
      have e : st w ((0 : Nat) : Int) false = w ++ [false] := rot_0 _
      refine ⟨0, Nat.zero_le _, by rw [e]; simp, by simp, ?_⟩
      rw [e, ← rot_mod]
      have : (-((w.length + 1 - 0 : Nat) : Int)) % ((w ++ [false]).length : Nat) = 0 := by
        rw [List.length_append, List.length_singleton, Nat.sub_zero]
        exact Int.emod_eq_zero_of_dvd ⟨-1, by omega⟩
      rw [this, rot_0]
    · have e : w ++ [false] = w.take (w.length + 1 - k) ++ (w.drop (w.length + 1 - k) ++ [false]) := by rw [← List.append_assoc, List.take_append_drop]
      have hl : (w.drop (w.length + 1 - k) ++ [false]).length = k := by rw [List.length_append, List.length_drop, List.length_singleton]; omega
      have e2 : st w (k : Int) false = w.drop (w.length + 1 - k) ++ [false] ++ w.take (w.length + 1 - k) := by
        unfold st
        rw [e]
        have := rot_split (x := w.take (w.length + 1 - k)) (y := w.drop (w.length + 1 - k) ++ [false]) (by rw [hl]; exact h0)
        rw [hl] at this
        exact this
      refine ⟨w.length + 1 - k, by omega, e2, by rw [show w.length + 1 - (w.length + 1 - k) = k by omega]; exact Nat.mod_eq_of_lt (by omega), ?_⟩
      rw [show w.length + 1 - (w.length + 1 - k) = k by omega]
      unfold st
      exact rot_back (by simp) _
  obtain ⟨e, h1, h2⟩ := ht_cut h j
  have key : lowb 0 0 0 0 (st w k false) = w.length + 1 - j := by
    rw [hj2, List.append_assoc, List.singleton_append, lowb_down _ _ 0 0 0 0 e h2 (by omega), lowb_up _ _ _ _ _ 0 e h1 (by omega), List.length_drop]
    omega
  rw [key]
  exact hjk
theorem mir_rot {l : List Bool} (h0 : 0 < l.length) (k : Int) : mir (rot l k) = rot (mir l) (-k) := by
  apply List.ext_getElem?
  intro i
  by_cases hi : i < l.length
  · have hm := mir_len l
    rw [rot_get (by omega) _ (by omega), hm]
    unfold mir
    rw [List.getElem?_reverse (by rw [List.length_map, rot_len]; omega), List.getElem?_map, List.length_map, rot_len, rot_get h0 k (by omega)]
    have a0 := Int.emod_nonneg ((i : Int) - -k) (show ((l.length : Nat) : Int) ≠ 0 by omega)
    have a1 := Int.emod_lt_of_pos ((i : Int) - -k) (show (0 : Int) < (l.length : Nat) by omega)
    rw [List.getElem?_reverse (by rw [List.length_map]; omega), List.getElem?_map, List.length_map]
    congr 2
    have q : (((l.length - 1 - i : Nat) : Int) - k) % (l.length : Nat) = (l.length : Nat) - 1 - ((i : Int) - -k) % (l.length : Nat) := by
      have e1 : (((l.length - 1 - i : Nat) : Int) - k) = ((l.length : Nat) : Int) - 1 - ((i : Int) - -k) := by omega
      have e2 := Int.emod_add_mul_ediv ((i : Int) - -k) (l.length : Nat)
      rw [e1]
      have e3 : ((l.length : Nat) : Int) - 1 - ((i : Int) - -k) = (((l.length : Nat) : Int) - 1 - ((i : Int) - -k) % (l.length : Nat)) + (l.length : Nat) * (-(((i : Int) - -k) / (l.length : Nat))) := by
        rw [Int.mul_neg]
        omega
      rw [e3, Int.add_mul_emod_self_left, Int.emod_eq_of_lt (by omega) (by omega)]
    omega
  · rw [List.getElem?_eq_none (by rw [mir_len, rot_len]; omega), List.getElem?_eq_none (by rw [rot_len, mir_len]; omega)]
/-- a high state, read backward and exchanged, is a low one -/
theorem mir_st (w : List Bool) (k : Int) (b : Bool) : mir (st w k b) = st (mir w) (1 - k) (!b) := by
  unfold st
  rw [mir_rot (by simp), mir_app]
  have e : mir [b] ++ mir w = rot (mir w ++ [!b]) 1 := by
    have := rot_split (x := mir w) (y := [!b]) (by simp)
    rw [show ((([!b] : List Bool).length : Nat) : Int) = 1 from rfl] at this
    rw [this]
    rfl
  rw [e, rot_rot (by simp)]
  rfl
theorem st_count (w : List Bool) (k : Int) (b : Bool) (h : dy 0 w = true) : 2 * (st w k b).count true = w.length + 2 * (if b then 1 else 0) := by
  unfold st
  rw [rot_count, List.count_append]
  have h1 := dy_tot w 0 h
  have h2 := count_len w
  cases b
  · have : ([false] : List Bool).count true = 0 := rfl
    rw [this]
    simp
    omega
  · have : ([true] : List Bool).count true = 1 := rfl
    rw [this]
    simp
    omega
theorem st_mod (w : List Bool) (k : Int) (b : Bool) : st w (k % ((w.length + 1 : Nat) : Int)) b = st w k b := by
  unfold st
  have := rot_mod (w ++ [b]) k
  rw [List.length_append] at this
  exact this
/-- is it a state -/
def stok (l : List Bool) : Bool := decide (l.length % 2 = 1) && decide (3 ≤ l.length) && decide (l.length ≤ 401) && (decide (l.count true = l.length / 2) || decide (l.count true = l.length / 2 + 1))
theorem st_ok {w : List Bool} (h : wok w = true) (k : Int) (b : Bool) : stok (st w k b) = true := by
  obtain ⟨h1, h2, h3⟩ := wok_iff.mp h
  have hc := st_count w k b h1
  obtain ⟨m, hm⟩ := dy_even h1
  unfold stok
  rw [st_len]
  simp only [Bool.and_eq_true, Bool.or_eq_true, decide_eq_true_eq]
  refine ⟨⟨⟨by omega, by omega⟩, by omega⟩, ?_⟩
  cases b
  · simp at hc
    left; omega
  · simp at hc
    right; omega
end L2.DL

set_option Elab.async false
set_option linter.all false
set_option autoImplicit false
set_option maxRecDepth 100000
/-! Turning by any integer; places on loops. -/
namespace L2.DL
open PySem PySem.Spec
def turnZ (w : List Bool) (t : Int) : List Bool := iter turn (t % ((per w : Nat) : Int)).toNat w
section
variable {w : List Bool}
theorem turnZ_nat (h : dy 0 w = true) (hn : w ≠ []) (k : Nat) : turnZ w (k : Int) = iter turn k w := by
  unfold turnZ
  rw [← Int.natCast_emod, Int.toNat_natCast, iter_mod h hn]
theorem turnZ_mod (t : Int) : turnZ w (t % ((per w : Nat) : Int)) = turnZ w t := by
  unfold turnZ
  rw [Int.emod_emod_of_dvd _ (Int.dvd_refl _)]
theorem turnZ_mem (h : dy 0 w = true) (hn : w ≠ []) (t : Int) : turnZ w t ∈ turns w := (mem_turns h hn).mpr ⟨_, rfl⟩
theorem turnZ_dy (h : dy 0 w = true) (hn : w ≠ []) (t : Int) : dy 0 (turnZ w t) = true ∧ turnZ w t ≠ [] ∧ (turnZ w t).length = w.length := dy_iter h hn _
theorem turnZ_wok (h : wok w = true) (t : Int) : wok (turnZ w t) = true := wok_iter h _
theorem turnZ_per (h : dy 0 w = true) (hn : w ≠ []) (t : Int) : per (turnZ w t) = per w := per_turn h hn (turnZ_mem h hn t)
theorem turnZ_add (h : dy 0 w = true) (hn : w ≠ []) (a b : Int) : turnZ (turnZ w a) b = turnZ w (a + b) := by
  have p0 := per_pos w
  have hp := turnZ_per h hn a
  have e1 : turnZ (turnZ w a) b = iter turn ((b % ((per w : Nat) : Int)).toNat) (iter turn ((a % ((per w : Nat) : Int)).toNat) w) := by
    rw [turnZ, hp]
    rfl
  have a0 := Int.emod_nonneg a (show ((per w : Nat) : Int) ≠ 0 by omega)
  have b0 := Int.emod_nonneg b (show ((per w : Nat) : Int) ≠ 0 by omega)
  rw [e1, ← iter_add, ← iter_mod h hn]
  unfold turnZ
  congr 1
  have e2 : (((a % ((per w : Nat) : Int)).toNat + (b % ((per w : Nat) : Int)).toNat : Nat) : Int) = a % ((per w : Nat) : Int) + b % ((per w : Nat) : Int) := by omega
  have e3 : (a + b) % ((per w : Nat) : Int) = ((((a % ((per w : Nat) : Int)).toNat + (b % ((per w : Nat) : Int)).toNat) % per w : Nat) : Int) := by
    rw [Int.natCast_emod, e2, ← Int.add_emod]
  rw [e3, Int.toNat_natCast]
theorem turnZ_0 : turnZ w 0 = w := by
  unfold turnZ
  rw [Int.zero_emod]
  rfl
theorem turnZ_1 (h : dy 0 w = true) (hn : w ≠ []) : turnZ w 1 = turn w := turnZ_nat h hn 1
theorem turnZ_back (h : dy 0 w = true) (hn : w ≠ []) : turnZ w (-1) = back w := by
  have e : turn (turnZ w (-1)) = w := by
    obtain ⟨d1, d2, _⟩ := turnZ_dy h hn (-1)
    rw [← turnZ_1 d1 d2, turnZ_add h hn]
    exact turnZ_0
  obtain ⟨d1, d2, _⟩ := turnZ_dy h hn (-1)
  rw [← back_turn d1 d2, e]
theorem turnZ_per_add (h : dy 0 w = true) (hn : w ≠ []) (t q : Int) : turnZ w (t + (per w : Nat) * q) = turnZ w t := by
  unfold turnZ
  rw [Int.add_mul_emod_self_left]
/-! ### places on a loop: j steps on from the low state at (w, k) -/
def cd2 (j : Int) : Int := j / 2 + j % 2
def odd2 (j : Int) : Bool := j % 2 == 1
def lp (w : List Bool) (k j : Int) : List Bool := st (turnZ w (cd2 j)) (k + cd2 j) (odd2 j)
theorem lp_low (w : List Bool) (k : Int) : lp w k 0 = st w k false := by
  show st (turnZ w 0) (k + 0) false = _
  rw [turnZ_0, Int.add_zero]
theorem lp_high (h : dy 0 w = true) (hn : w ≠ []) (k : Int) : lp (back w) (k - 1) 1 = st w k true := by
  show st (turnZ (back w) 1) (k - 1 + 1) true = _
  have e : turnZ (back w) 1 = w := by
    rw [← turnZ_back h hn, turnZ_add h hn]
    exact turnZ_0
  rw [e, Int.sub_add_cancel]
theorem st_congr {w : List Bool} {a b : Int} {x : Bool} (h : a % ((w.length + 1 : Nat) : Int) = b % ((w.length + 1 : Nat) : Int)) : st w a x = st w b x := by
  rw [← st_mod w a, h, st_mod]
theorem st_shift (w : List Bool) (a b n : Int) (hn : n = ((w.length + 1 : Nat) : Int)) (x : Bool) : st w (a % n + b) x = st w (a + b) x := by
  subst hn
  refine st_congr ?_
  rw [Int.add_emod, Int.emod_emod_of_dvd _ (Int.dvd_refl _), ← Int.add_emod]
theorem lp_around (h : dy 0 w = true) (hn : w ≠ []) (k j : Int) : lp w k (j + 2 * (per w : Nat) * ((w.length + 1 : Nat) : Int)) = lp w k j := by
  have e : j + 2 * ((per w : Nat) : Int) * ((w.length + 1 : Nat) : Int) = j + 2 * (((per w : Nat) : Int) * ((w.length + 1 : Nat) : Int)) := by rw [Int.mul_assoc]
  rw [e]
  generalize hq : ((per w : Nat) : Int) * ((w.length + 1 : Nat) : Int) = q
  have e1 : cd2 (j + 2 * q) = cd2 j + q := by unfold cd2; omega
  have e2 : odd2 (j + 2 * q) = odd2 j := by
    unfold odd2
    rw [show (j + 2 * q) % 2 = j % 2 by omega]
  unfold lp
  rw [e1, e2, ← hq, turnZ_per_add h hn]
  refine st_congr ?_
  rw [(turnZ_dy h hn _).2.2, ← Int.add_assoc, Int.mul_comm, Int.add_mul_emod_self_left]
end
end L2.DL

set_option Elab.async false
set_option linter.all false
set_option autoImplicit false
set_option maxRecDepth 100000
/-! len(set(xs)), xs a list of texts. -/
namespace L2.DL
open PySem PySem.Spec PyProof.Rows
/-- what of a list is met first -/
def dd (xs : List Str) : List Str := xs.foldl step_dedup []
theorem dd_snoc (xs : List Str) (x : Str) : dd (xs ++ [x]) = step_dedup (dd xs) x := by unfold dd; rw [List.foldl_append]; rfl
theorem step_anyS (σ : List Str) (v k : Str) : (step_dedup σ v).any (· == k) = (σ.any (· == k) || decide (k = v)) := by
  unfold step_dedup
  by_cases h : σ.any (· == v) = true
  · rw [if_pos h]
    by_cases e : k = v
    · subst e; rw [h]; simp
    · simp [e]
  · rw [if_neg h, List.any_append]
    by_cases e : k = v
    · subst e; simp
    · have hb : (v == k) = false := by simpa [beq_iff_eq] using (fun h' : v = k => e h'.symm)
      simp [hb, e]
theorem step_lengthS (σ : List Str) (v : Str) : (step_dedup σ v).length = if σ.any (· == v) then σ.length else σ.length + 1 := by
  unfold step_dedup; split <;> simp
theorem dd_len_le (xs : List Str) : (dd xs).length ≤ xs.length := foldl_step_dedup_nil_length_le xs
theorem dd_nodup : ∀ (xs ys : List Str), (ys ++ xs).Nodup → xs.foldl step_dedup ys = ys ++ xs
  | [], ys, _ => by rw [List.append_nil]; rfl
  | x :: xs, ys, h => by
    have hx : ys.any (· == x) = false := by
      rw [List.any_eq_false]
      intro y hy
      have := (List.nodup_append.mp h).2.2 y hy x List.mem_cons_self
      simpa using this
    have e : step_dedup ys x = ys ++ [x] := by unfold step_dedup; rw [hx]; rfl
    rw [List.foldl_cons, e, dd_nodup xs (ys ++ [x]) (by rw [List.append_assoc]; exact h), List.append_assoc]
    rfl
theorem dd_of_nodup {xs : List Str} (h : xs.Nodup) : dd xs = xs := by
  have := dd_nodup xs [] (by simpa using h)
  simpa [dd] using this
section
variable {prog : Program} {w : World} {A : Around} {R : Result → Shared → Prop} {I : Addr} {fp wr : List Addr} {G : Array GenState → Array GenState → Prop} {n : Nat} {P : Nat → Value → Prop} {St : Nat → Shared → Prop}
theorem loopStrs (W : WalksS prog w A.in1 I fp wr G n P St) (S : Addr) (hSf : S ∉ fp) (xs : List Str) (hsz : xs.length = n) (hb : n + 1 < scanBound)
    (hval : ∀ i v, P i v → ∃ t, v = .str (xs.getD i Str.empty) t) :
    ∀ (k i : Nat) (s : Shared), n - i = k → i ≤ n → St i s →
      s.heap.SetOf (PySem.strKind prog w) S (fun k' => (dd (xs.take i)).any (· == k')) (dd (xs.take i)).length →
      (∀ s', Moved (S :: wr) G s s' → s'.heap.SetOf (PySem.strKind prog w) S (fun k' => (dd (xs.take n)).any (· == k')) (dd (xs.take n)).length → R (.ok (.ret .none)) s') →
      codeAny (model prog w) A (.builtin "set.update.loop" ⟨[.ref S, .ref I], []⟩) R s := by
  have hSw : S ∉ wr := fun h => hSf (W.sub _ h)
  have hsub : ∀ b ∈ wr, b ∈ S :: wr := fun b hb => List.mem_cons_of_mem _ hb
  intro k
  induction k with
  | zero =>
    intro i s hk hi hst hS hR
    have hin : i = n := by omega
    subst hin
    refine codeAny_builtin PyProof.Rows.F.entry_set_update_loop ?_
    rw [Around.under_plainId PyProof.Rows.F.plain_set_update_loop _]
    show wpAny _ A.in1 (pyNext (.ref I) >>= _) _ _ s
    refine wpAny_bind (W.done s _ _ hst fun s' hm => ?_)
    show wpAny _ A.in1 (ret Value.none) _ _ s'
    exact wpAny_pure (hR s' (hm.mono hsub) (by
      obtain ⟨o, es, ep, t, ho, rest⟩ := hS
      exact ⟨o, es, ep, t, hm.heap S _ hSw ho, rest⟩))
  | succ k ih =>
    intro i s hk hi hst hS hR
    have hlt : i < n := by omega
    refine codeAny_builtin PyProof.Rows.F.entry_set_update_loop ?_
    rw [Around.under_plainId PyProof.Rows.F.plain_set_update_loop _]
    show wpAny _ A.in1 (pyNext (.ref I) >>= _) _ _ s
    refine wpAny_bind (W.item i s _ _ hlt hst fun v s' hP hst' hm => ?_)
    obtain ⟨t, rfl⟩ := hval i v hP
    have hS' : s'.heap.SetOf (PySem.strKind prog w) S (fun k' => (dd (xs.take i)).any (· == k')) (dd (xs.take i)).length := by
      obtain ⟨o, es, ep, tb, ho, rest⟩ := hS
      exact ⟨o, es, ep, tb, hm.heap S _ hSw ho, rest⟩
    show wpAny _ A.in1 (holding [Value.str (xs.getD i Str.empty) t] (setAdd S (.str (xs.getD i Str.empty) t)) >>= _) _ _ s'
    refine wpAny_bind (wpAny_holding ?_)
    unfold setAdd
    refine wpAny_holding ?_
    refine wpAny_bind ((PySem.strKind prog w).pyHash (k := xs.getD i Str.empty) (strKind_is _ _ _ _) ?_)
    have hroom : (dd (xs.take i)).length + 1 < scanBound := by
      have := dd_len_le (xs.take i)
      rw [List.length_take] at this
      omega
    refine wpAny_setAddHashed_of (knd := PySem.strKind prog w) (s := { s' with toks := s'.toks + 1 }) (strKind_is _ _ _ _) rfl hS' hroom fun h' hsb hS2 => ?_
    have et : xs.take (i + 1) = xs.take i ++ [xs.getD i Str.empty] := by
      rw [List.take_add_one, List.getElem?_eq_getElem (by omega)]
      simp [List.getD, List.getElem?_eq_getElem (show i < xs.length by omega)]
    have hSi : h'.SetOf (PySem.strKind prog w) S (fun k' => (dd (xs.take (i + 1))).any (· == k')) (dd (xs.take (i + 1))).length :=
      SetOf_congr hS2 (fun k' => by rw [et, dd_snoc, step_anyS]) (by rw [et, dd_snoc, step_lengthS])
    refine wpAny_pure ⟨plainId_quiet PyProof.Rows.F.plain_set_update_loop _, ih (i + 1) _ (by omega) hlt (W.frame _ s' _ _ hst' (Nat.le_succ _) fun b hb o e => ?_) hSi fun s'' hm'' hS'' => ?_⟩
    · rw [hsb.2 b (fun h : b = S => hSf (by rw [← h]; exact hb))]; exact e
    · refine hR s'' (Moved.trans W.gtrans ((hm.mono hsub).then_heap (Nat.le_succ _) fun b o hb e => ?_) hm'') hS''
      rw [hsb.2 b (fun h : b = S => hb (by rw [h]; exact List.mem_cons_self))]; exact e
end
section
variable {prog : Program} {w : World} {A : Around} {E : Value → Shared → Prop} {s : Shared}
set_option maxHeartbeats 3200000 in
theorem set_listStrs {l : Addr} {items : Array Value} {xs : List Str} {Q : Value → Shared → Prop}
    (hh : A.handled = none) (hl : s.heap.IsList l items) (hi : StrsAre items.toList xs) (hb : xs.length + 1 < scanBound)
    (h : ∀ (h' : Heap) (tk : Nat), h'.SetOf (PySem.strKind prog w) s.heap.objs.size (fun k' => (dd xs).any (· == k')) (dd xs).length →
      (∀ b o, b < s.heap.objs.size → s.heap.get? b = some o → h'.get? b = some o) → Q (.ref s.heap.objs.size) { s with heap := h', toks := tk }) :
    wpAny (model prog w) A (call (.type "set") [.ref l]) Q E s := by
  have hsz : xs.length = items.size := by rw [← StrsAre.len_eq hi, Array.length_toList]
  obtain ⟨ol, hol, hcl, nl, hdl⟩ := hl
  obtain ⟨ocls, odict, odata, oslots⟩ := ol
  simp only at hcl hdl
  subst hcl hdl
  obtain ⟨c, tl, hmro⟩ := PySem.F.called_set.mro
  have hmade := PySem.F.called_set.made
  have hsub := PySem.F.called_set.sub
  refine wpAny_call (codeAny_of_tree ?_)
  show wpAny _ _ (callAny (.type "set") _) _ _ _
  refine wpAny_pure ⟨Code.quiet_builtin _ (by decide +kernel), codeAny_builtin PySem.F.entry_type_call ?_⟩
  rw [Around.under_plain (weight_type_call_type "set" [.ref l] []) rfl]
  have h1 := PySem.F.called_set.notType
  have h2 := PySem.F.called_set.canCreate
  have hct := PySem.F.typeCall_set_1 (.ref l)
  repeat (any_goals (first | assumption | wp_step))
  refine codeAny_mono (code_set_new_1 (.ref l) (E := E) (Q₁ := fun obj s₁ => ∃ led : Bool, obj = .ref s.heap.objs.size ∧ s₁ = { s with heap := s.heap.push { cls := .type "set", dict := none, data := .set #[] 0 (.fresh 0 0 led) } }) fun led => ⟨led, rfl, rfl⟩) fun r s₁ hr => ?_
  rcases r with e | fl
  · exact hr
  rcases fl with _ | _ | _ | obj <;> try exact hr.elim
  obtain ⟨led, rfl, rfl⟩ := hr
  have hS : (s.heap.push { cls := .type "set", dict := none, data := .set #[] 0 (.fresh 0 0 led) }).get? s.heap.objs.size = some { cls := .type "set", dict := none, data := .set #[] 0 (.fresh 0 0 led) } := Heap.get?_push_size _ rfl
  have hT : Shared.TypeIs { s with heap := s.heap.push { cls := .type "set", dict := none, data := .set #[] 0 (.fresh 0 0 led) } } (.ref s.heap.objs.size) "set" := ⟨_, hS, rfl⟩
  have hli := PySem.F.called_set.init.lookup
  have hbi := PySem.F.called_set.init.bind (.ref s.heap.objs.size)
  repeat (any_goals (first | assumption | wp_step))
  refine codeAny_mono (codeAny_call_builtin (R := wants (fun r s₂ => r = .none ∧ ∃ h' tk, s₂ = { s with heap := h', toks := tk } ∧
      h'.SetOf (PySem.strKind prog w) s.heap.objs.size (fun k' => (dd xs).any (· == k')) (dd xs).length ∧
      (∀ b o, b < s.heap.objs.size → s.heap.get? b = some o → h'.get? b = some o)) E) PySem.F.called_set.init.plain PySem.F.entry_set_init (check_set_init_1 hT ?_)) fun r₂ s₂ hr₂ => ?_
  · have hol' : (s.heap.push { cls := .type "set", dict := none, data := .set #[] 0 (.fresh 0 0 led) }).get? l = some { cls := .type "list", dict := odict, data := .seq items nl, slots := oslots } := Heap.get?_push_of_some _ hol
    have hsls := PySem.F.sub_list_set
    have hslf := PySem.F.sub_list_frozenset
    have hne : (Value.type "list" == Value.type "dict") = false := by decide
    have hl1 : (s.heap.push { cls := .type "set", dict := none, data := .set #[] 0 (.fresh 0 0 led) }).IsList l items := ⟨_, hol', rfl, nl, rfl⟩
    unfold Builtin.«set.__init__» noKeywords Builtin.Frozenset.updateFrom
    generalize hPI : pyIter = PI
    wp_walk
    subst hPI
    refine wpAny_pyIter_list hl1 ?_
    refine wpAny_bind (wpAny_runValue ?_)
    have hlS : l < s.heap.objs.size := Heap.lt_size hol
    have hh3 : A.in1.in1.in1.handled = none := by simp [hh]
    have hneI : l ≠ (s.heap.push { cls := .type "set", dict := none, data := .set #[] 0 (.fresh 0 0 led) }).objs.size := by
      rw [Heap.size_push]; exact Nat.ne_of_lt (Nat.lt_succ_of_lt hlS)
    have hSf : s.heap.objs.size ∉ [(s.heap.push { cls := .type "set", dict := none, data := .set #[] 0 (.fresh 0 0 led) }).objs.size, l] := by
      rw [Heap.size_push]; simp only [List.mem_cons, List.mem_singleton, List.not_mem_nil, or_false, not_or]
      exact ⟨Nat.ne_of_lt (Nat.lt_succ_self _), Nat.ne_of_gt hlS⟩
    have hval : ∀ (i : Nat) (v : Value), items[i]? = some v → ∃ t, v = .str (xs.getD i Str.empty) t := fun i v hv => SS.strs_at hi i v (by rw [Array.getElem?_toList]; exact hv)
    have hget : ((s.heap.push { cls := .type "set", dict := none, data := .set #[] 0 (.fresh 0 0 led) }).push { cls := .type "list_iterator", data := .fields #[.ref l, .int 0 0] }).get? s.heap.objs.size
        = some { cls := .type "set", dict := none, data := .set #[] 0 (.fresh 0 0 led) } := Heap.get?_push_of_some _ hS
    refine loopStrs ((Walks.list hh3 _ l hneI items).toS) s.heap.objs.size hSf xs hsz (by rw [← hsz]; exact hb) hval (items.size - 0) 0 _ (by omega) (Nat.zero_le _)
      ⟨⟨_, Heap.get?_push_size _ rfl, rfl, rfl⟩, (hl1.push _)⟩
      (PyProof.Rows.SetOf_congr ((PyProof.Rows.setObjOf_fresh (knd := PySem.strKind prog w) led).setOf hget (by unfold scanBound; omega)) (fun _ => rfl) rfl) ?_
    intro s' hm hS'
    rw [← hsz, List.take_length] at hS'
    obtain ⟨h', g', d', tk', os'⟩ := s'
    have eg : g' = s.gens := hm.gens
    have ed : d' = s.drawn := hm.drawn
    have eo : os' = s.os := hm.os
    subst eg ed eo
    show wpAny _ _ _ _ _ _
    refine wpAny_pure ?_
    show wpAny _ _ (ret Value.none) _ _ _
    refine wpAny_pure ⟨rfl, h', tk', rfl, hS', fun b o hb e => ?_⟩
    have hb1 : b ≠ s.heap.objs.size := Nat.ne_of_lt hb
    have hb2 : b ≠ (s.heap.push { cls := .type "set", dict := none, data := .set #[] 0 (.fresh 0 0 led) }).objs.size := by
      rw [Heap.size_push]; exact Nat.ne_of_lt (Nat.lt_succ_of_lt hb)
    exact hm.heap b o (by simp only [List.mem_cons, List.mem_singleton, List.not_mem_nil, or_false, not_or]; exact ⟨hb1, hb2⟩) (Heap.get?_push_of_some _ (Heap.get?_push_of_some _ e))
  · rcases r₂ with e | fl₂
    · exact hr₂
    rcases fl₂ with _ | _ | _ | r <;> try exact hr₂.elim
    obtain ⟨rfl, h', tk, rfl, hS', hk'⟩ := hr₂
    repeat (any_goals (first | assumption | wp_step))
    exact h _ _ hS' hk'
end
section
variable {X : Cx} {F : Hp} {γ : Gm} {pos : Pos}
def tLenSetS (K : PySem.W.Frag) (ta : TE) : TE := fun σ H Q => ta σ H fun x H1 => ∃ l, ∃ xs : List Str, x = .ref l ∧ SqL K H1 l (xs.map V.str) ∧ xs.length ≤ 4000 ∧ Q (.int ((dd xs).length : Nat)) H1
theorem pe_lenSetS {a : Expr} {ta : TE} {p p2 q : Pos} (hc : X.calm = true) (hg : Gl X "len") (hm : X.mg "len" = none) (hg2 : Gl X "set") (hm2 : X.mg "set" = none) (ha : PE X a ta)
    (na : starEach [a] X.env = (false, eval a X.env) :: starEach [] X.env := by rfl) : PE X (.Call (.Name "len" p) [.Call (.Name "set" p2) [a] [] q] [] pos) (tLenSetS X.K ta) := by
  refine ⟨fun pins s σ H Q I h => ?_⟩
  refine Call_ (ld_blt I hg hm boot_len ?_)
  refine PyProof.Rows.callWith_builtin1 (PyProof.Rows.args_cons ?_ rfl) rfl rfl
  refine Call_ (ld_blt I hg2 hm2 boot_set ?_)
  refine PyProof.Rows.callWith_type1 (PyProof.Rows.args_cons (thn (ha.run pins s σ H _ I h) fun v s1 ⟨x, H1, I1, r1, q1⟩ => PyProof.Rows.args_nil ?_) na) na rfl
  obtain ⟨l, xs, rfl, hq, h1, q1⟩ := q1
  cases r1
  obtain ⟨its, r, pl, hz⟩ := I1.list hq
  refine set_listStrs (I1.ok.hd hc) pl.isList (by simpa using L2.strsAre_of r) (by unfold scanBound; omega) fun h' tk hS hk => ?_
  refine PyProof.Rows.args_nil ?_
  obtain ⟨o, es, ep, t, ho, hex, hd, _, _, _, hf, hn⟩ := hS
  have I2 : Inv X pins σ H1 { s1 with heap := h', toks := tk } := I1.kept fun b o e => hk b o (Heap.lt_size e) e
  have hle := dd_len_le xs
  exact call_len_set ho hex hd hf (by rw [hn] <;> omega) ⟨.int (dd xs).length, H1, I2.tok _, ⟨_, by rw [hn]⟩, q1⟩
/-- len(set(xs)), xs of slot i -/
def wLenSetO (i : Nat) : WE := fun env c P => ∃ zs : List Str, env[i]? = some (.own (zs.map .str)) ∧ zs.length ≤ 4000 ∧ P (.int ((dd zs).length : Nat)) c
theorem has_strs {K : PySem.W.Frag} {H : Hp} : ∀ {vs : List V} {zs : List Str}, HasL K H vs (zs.map D.str) → vs = zs.map V.str
  | [], [], _ => rfl
  | v :: vs, z :: zs, h => by
    cases h with
    | cons h1 h2 =>
      cases h1
      rw [has_strs h2]
      rfl
theorem dLenSetO (i : Nat) {x : Expr} {p p2 q : Pos} (hx : PE X x (tVar i)) (hm : X.mg "len" = none) (hm2 : X.mg "set" = none) (hg : Gl X "len" := by rfl) (hg2 : Gl X "set" := by rfl) (hc : X.calm = true := by rfl)
    (na : starEach [x] X.env = (false, eval x X.env) :: starEach [] X.env := by rfl) : PE X (.Call (.Name "len" p) [.Call (.Name "set" p2) [x] [] q] [] pos) (tG X.K F γ (wLenSetO i)) := PE.imp (pe_lenSetS hc hg hm hg2 hm2 hx na) fun σ H Q h => by
  obtain ⟨H0, env, c, P, R, ⟨zs, e1, z1, q1⟩, k⟩ := h
  obtain ⟨a, vs, a0, a1, v1, _⟩ := R.own_at e1
  have := has_strs v1
  subst this
  exact ⟨_, a0, a, zs, rfl, SqL.of a1, z1, k _ _ _ _ _ q1 (Same.refl _) R (.int _)⟩
/-- len(set(xs)), xs a value -/
def wLenSet (we : WE) : WE := fun env c P => we env c fun d c1 => ∃ ds zs, d = .lst ds ∧ D.strs ds = some zs ∧ zs.length ≤ 4000 ∧ P (.int ((dd zs).length : Nat)) c1
theorem dLenSet {we : WE} {x : Expr} {p p2 q : Pos} (hx : PE X x (tG X.K F γ we)) (hm : X.mg "len" = none) (hm2 : X.mg "set" = none) (hg : Gl X "len" := by rfl) (hg2 : Gl X "set" := by rfl) (hc : X.calm = true := by rfl)
    (na : starEach [x] X.env = (false, eval x X.env) :: starEach [] X.env := by rfl) : PE X (.Call (.Name "len" p) [.Call (.Name "set" p2) [x] [] q] [] pos) (tG X.K F γ (wLenSet we)) := PE.imp (pe_lenSetS hc hg hm hg2 hm2 hx na) fun σ H Q h => by
  obtain ⟨H0, env, c, P, R, q, k⟩ := h
  exact ⟨H0, env, c, _, R, q, fun d c1 v H1 H01 ⟨ds, zs, e, es, z1, q1⟩ ss R1 h1 => by
    subst e
    cases h1 with
    | lst a1 a2 => exact ⟨_, zs, rfl, by rw [← strs_of a2 es]; exact SqL.of (R1.core.sub _ _ a1), z1, k _ _ _ _ _ q1 ss R1 (.int _)⟩⟩
end
end L2.DL

set_option Elab.async false
set_option linter.all false
set_option autoImplicit false
set_option maxRecDepth 100000
/-! States know their homes; places on a loop are apart; neighbours differ at one lamp. -/
namespace L2.DL
open PySem PySem.Spec
theorem st_inj0 {w w' : List Bool} (h : dy 0 w = true) (h' : dy 0 w' = true) (hl : w.length = w'.length) {k k' : Int} (e : st w k false = st w' k' false) : w = w' ∧ k % ((w.length + 1 : Nat) : Int) = k' % ((w.length + 1 : Nat) : Int) := by
  have a0 := Int.emod_nonneg k (show ((w.length + 1 : Nat) : Int) ≠ 0 by omega)
  have a1 := Int.emod_lt_of_pos k (show (0 : Int) < ((w.length + 1 : Nat) : Int) by omega)
  have b0 := Int.emod_nonneg k' (show ((w.length + 1 : Nat) : Int) ≠ 0 by omega)
  have b1 := Int.emod_lt_of_pos k' (show (0 : Int) < ((w.length + 1 : Nat) : Int) by omega)
  obtain ⟨r1, r2⟩ := low_home h (k := (k % ((w.length + 1 : Nat) : Int)).toNat) (by omega)
  obtain ⟨s1, s2⟩ := low_home h' (k := (k' % ((w.length + 1 : Nat) : Int)).toNat) (by omega)
  rw [Int.toNat_of_nonneg a0, st_mod] at r1 r2
  have e2 : st w' (k' % ((w.length + 1 : Nat) : Int)) false = st w' k' false := by rw [hl]; exact st_mod _ _ _
  rw [Int.toNat_of_nonneg b0, e2, ← e] at s1 s2
  rw [← hl] at s1
  refine ⟨?_, by omega⟩
  have := r2.symm.trans s2
  exact (List.append_inj this hl).1
theorem st_inj {w w' : List Bool} (h : dy 0 w = true) (h' : dy 0 w' = true) {k k' : Int} {b b' : Bool} (e : st w k b = st w' k' b') : w = w' ∧ k % ((w.length + 1 : Nat) : Int) = k' % ((w.length + 1 : Nat) : Int) ∧ b = b' := by
  have hl : w.length = w'.length := by
    have := congrArg List.length e
    rw [st_len, st_len] at this
    omega
  have hc := st_count w k b h
  have hc' := st_count w' k' b' h'
  rw [e, hl] at hc
  have hb : b = b' := by
    cases b <;> cases b' <;> first | rfl | (simp at hc hc'; omega)
  subst hb
  cases b with
  | false =>
    obtain ⟨e1, e2⟩ := st_inj0 h h' hl e
    exact ⟨e1, e2, rfl⟩
  | true =>
    have em : mir (st w k true) = mir (st w' k' true) := congrArg mir e
    rw [mir_st, mir_st] at em
    obtain ⟨e1, e2⟩ := st_inj0 (dy_mir _ _ (Nat.le_refl _) h) (dy_mir _ _ (Nat.le_refl _) h') (by rw [mir_len, mir_len, hl]) em
    rw [mir_len] at e2
    have e3 : w = w' := by rw [← mir_mir w, e1, mir_mir]
    refine ⟨e3, ?_, rfl⟩
    have := Int.emod_emod_of_dvd
    have q : (1 - (1 - k)) % ((w.length + 1 : Nat) : Int) = (1 - (1 - k')) % ((w.length + 1 : Nat) : Int) := by
      rw [Int.sub_emod, e2, ← Int.sub_emod]
    rw [show 1 - (1 - k) = k by omega, show 1 - (1 - k') = k' by omega] at q
    exact q
theorem per_dvd {w : List Bool} (h : dy 0 w = true) (hn : w ≠ []) : per w ∣ w.length := by
  obtain ⟨p1, p2, p3⟩ := per_spec h hn
  have e := iter_mod h hn w.length
  rw [turn_all h] at e
  have hlt := Nat.mod_lt w.length (per_pos w)
  by_cases q : w.length % per w = 0
  · exact Nat.dvd_of_mod_eq_zero q
  · exact absurd e (p3 _ (by omega) hlt)
theorem turnZ_inj {w : List Bool} (h : dy 0 w = true) (hn : w ≠ []) {a b : Int} (e : turnZ w a = turnZ w b) : a % ((per w : Nat) : Int) = b % ((per w : Nat) : Int) := by
  have p0 := per_pos w
  have a0 := Int.emod_nonneg a (show ((per w : Nat) : Int) ≠ 0 by omega)
  have a1 := Int.emod_lt_of_pos a (show (0 : Int) < ((per w : Nat) : Int) by omega)
  have b0 := Int.emod_nonneg b (show ((per w : Nat) : Int) ≠ 0 by omega)
  have b1 := Int.emod_lt_of_pos b (show (0 : Int) < ((per w : Nat) : Int) by omega)
  unfold turnZ at e
  by_cases q : (a % ((per w : Nat) : Int)).toNat < (b % ((per w : Nat) : Int)).toNat
  · exact absurd e (iter_ne h hn q (by omega))
  · by_cases q2 : (b % ((per w : Nat) : Int)).toNat < (a % ((per w : Nat) : Int)).toNat
    · exact absurd e.symm (iter_ne h hn q2 (by omega))
    · omega
/-- places on a loop fall together only once around -/
theorem lp_inj {w : List Bool} (h : dy 0 w = true) (hn : w ≠ []) {k i j : Int} (e : lp w k i = lp w k j) : (2 * ((per w : Nat) : Int) * ((w.length + 1 : Nat) : Int)) ∣ (i - j) := by
  obtain ⟨x1, x2, x3⟩ := turnZ_dy h hn (cd2 i)
  obtain ⟨y1, y2, y3⟩ := turnZ_dy h hn (cd2 j)
  obtain ⟨e1, e2, e3⟩ := st_inj x1 y1 e
  have m1 := turnZ_inj h hn e1
  rw [x3] at e2
  have d1 : ((per w : Nat) : Int) ∣ (cd2 i - cd2 j) := Int.emod_eq_emod_iff_emod_sub_eq_zero.mp m1 |> Int.dvd_of_emod_eq_zero
  have d2 : ((w.length + 1 : Nat) : Int) ∣ (cd2 i - cd2 j) := by
    have := Int.emod_eq_emod_iff_emod_sub_eq_zero.mp e2 |> Int.dvd_of_emod_eq_zero
    rw [show k + cd2 i - (k + cd2 j) = cd2 i - cd2 j by omega] at this
    exact this
  have cop : Nat.Coprime (per w) (w.length + 1) := by
    obtain ⟨q, hq⟩ := per_dvd h hn
    have g1 : Nat.gcd (per w) (w.length + 1) ∣ w.length := Nat.dvd_trans (Nat.gcd_dvd_left _ _) ⟨q, hq⟩
    have g2 : Nat.gcd (per w) (w.length + 1) ∣ w.length + 1 := Nat.gcd_dvd_right _ _
    exact Nat.dvd_one.mp ((Nat.dvd_add_right g1).mp g2)
  have d3 : ((per w : Nat) : Int) * ((w.length + 1 : Nat) : Int) ∣ (cd2 i - cd2 j) := by
    rw [← Int.natCast_mul]
    refine Int.ofNat_dvd_left.mpr ?_
    exact Nat.Coprime.mul_dvd_of_dvd_of_dvd cop (Int.ofNat_dvd_left.mp d1) (Int.ofNat_dvd_left.mp d2)
  have ev : i - j = 2 * (cd2 i - cd2 j) := by
    unfold odd2 at e3
    unfold cd2
    have : (i % 2 = 1) ↔ (j % 2 = 1) := by
      constructor
      · intro q; rw [q] at e3; simpa using e3.symm
      · intro q; rw [q] at e3; simpa using e3
    omega
  rw [ev, Int.mul_assoc]
  exact Int.mul_dvd_mul_left 2 d3
end L2.DL

set_option Elab.async false
set_option linter.all false
set_option autoImplicit false
set_option maxRecDepth 100000
/-! a, b = xs; xs a tuple or a list. -/
namespace L2.DL
open PySem PySem.Spec
section
variable {X : Cx} {F : Hp} {γ : Gm} {pos : Pos}
def gTA (n : Nat) (r : WGs) : WG := fun d env P => ∃ ds, (d = .tup ds ∨ d = .lst ds) ∧ ds.length = n ∧ r ds env P
theorem dgTupA {es : List Expr} {k n : Nat} {r : WGs} {is : List Nat} (h : PGs X es (tgGs X.K F γ is r)) (hc : X.calm = true := by rfl)
    (hn : (assignEach es X.env).length = n := by rfl) (hst : (assignEach es X.env).findIdx? (·.1) = none := by rfl) : PG X (.Tuple es k pos) (tgG X.K F γ is (gTA n r)) := by
  refine ⟨fun pins s σ H v u Q I rl hw => ?_⟩
  obtain ⟨H0, env, c, d, P, R, hd, ⟨ds, e, hl, q⟩, kk⟩ := hw
  rcases e with e | e
  · subst e
    cases hd with
    | tup h1 h2 => exact (pg_tup hc h hn hst).run pins s σ H _ u Q I rl ⟨_, _, rfl, SqT.of (R.core.sub _ _ h1), h2.length.trans hl, H0, env, c, ds, P, R, h2, q, kk⟩
  · subst e
    cases hd with
    | lst h1 h2 => exact (pg_unl hc h hn hst).run pins s σ H _ u Q I rl ⟨_, _, rfl, SqL.of (R.core.sub _ _ h1), h2.length.trans hl, H0, env, c, ds, P, R, h2, q, kk⟩
end
end L2.DL

set_option Elab.async false
set_option linter.all false
set_option autoImplicit false
set_option maxRecDepth 100000
/-! Neighbours on a loop differ at one lamp. -/
namespace L2.DL
open PySem PySem.Spec
theorem diff_at (a b : List Bool) (c : Bool) (i : Nat) : (a ++ c :: b)[i]? = (a ++ (!c) :: b)[i]? ↔ i ≠ a.length := by
  by_cases h : i < a.length
  · rw [List.getElem?_append_left h, List.getElem?_append_left h]
    exact ⟨fun _ => by omega, fun _ => rfl⟩
  · rw [List.getElem?_append_right (by omega), List.getElem?_append_right (by omega)]
    cases m : i - a.length with
    | zero =>
      have : i = a.length := by omega
      simp [this]
    | succ m =>
      simp only [List.getElem?_cons_succ, true_iff]
      omega
theorem rot_diff (a b : List Bool) (c : Bool) (k : Int) (n : Nat) (hn : n = a.length + b.length + 1) {i : Nat} (hi : i < n) :
    (rot (a ++ c :: b) k)[i]? = (rot (a ++ (!c) :: b) k)[i]? ↔ i ≠ (((a.length : Int) + k) % ((n : Nat) : Int)).toNat := by
  have l1 : (a ++ c :: b).length = n := by simp; omega
  have l2 : (a ++ (!c) :: b).length = n := by simp; omega
  rw [rot_get (by omega) k (by omega), rot_get (by omega) k (by omega), l1, l2, diff_at]
  have n0 : ((n : Nat) : Int) ≠ 0 := by omega
  have a0 := Int.emod_nonneg ((i : Int) - k) n0
  have b0 := Int.emod_nonneg ((a.length : Int) + k) n0
  have key : ((i : Int) - k) % ((n : Nat) : Int) = (a.length : Int) ↔ ((a.length : Int) + k) % ((n : Nat) : Int) = (i : Int) := by
    constructor
    · intro e
      rw [← e, Int.add_emod, Int.emod_emod_of_dvd _ (Int.dvd_refl _), ← Int.add_emod, Int.sub_add_cancel, Int.emod_eq_of_lt (by omega) (by omega)]
    · intro e
      rw [← e, Int.sub_emod, Int.emod_emod_of_dvd _ (Int.dvd_refl _), ← Int.sub_emod, Int.add_sub_cancel, Int.emod_eq_of_lt (by omega) (by omega)]
  constructor
  · intro q e
    exact q (by have := key.mpr (by omega); omega)
  · intro q e
    exact q (by have := key.mp (by omega); omega)
theorem lp_next {w : List Bool} (h : dy 0 w = true) (hn : w ≠ []) (k j : Int) : ∃ a b c m, lp w k j = rot (a ++ c :: b) m ∧ lp w k (j + 1) = rot (a ++ (!c) :: b) m ∧ a.length + b.length + 1 = w.length + 1 := by
  obtain ⟨d1, d2, d3⟩ := turnZ_dy h hn (cd2 j)
  by_cases q : j % 2 = 1
  · have e1 : odd2 j = true := by unfold odd2; rw [q]; rfl
    have e2 : cd2 (j + 1) = cd2 j := by unfold cd2; omega
    have e3 : odd2 (j + 1) = false := by unfold odd2; rw [show (j + 1) % 2 = 0 by omega]; rfl
    refine ⟨turnZ w (cd2 j), [], true, k + cd2 j, ?_, ?_, by rw [d3]; rfl⟩
    · unfold lp; rw [e1]; rfl
    · unfold lp; rw [e2, e3]; rfl
  · have e1 : odd2 j = false := by unfold odd2; rw [show j % 2 = 0 by omega]; rfl
    have e2 : cd2 (j + 1) = cd2 j + 1 := by unfold cd2; omega
    have e3 : odd2 (j + 1) = true := by unfold odd2; rw [show (j + 1) % 2 = 1 by omega]; rfl
    have e4 : turnZ w (cd2 j + 1) = turn (turnZ w (cd2 j)) := by rw [← turnZ_1 d1 d2, turnZ_add h hn]
    obtain ⟨u, v, hu, hv, e, ef⟩ := dy_split d1 d2
    refine ⟨true :: u, v ++ [false], false, k + cd2 j, ?_, ?_, ?_⟩
    · unfold lp
      rw [e1]
      unfold st
      rw [e]
      congr 1
      simp
    · unfold lp
      rw [e2, e3, e4]
      unfold st
      have e5 : rot (turn (turnZ w (cd2 j)) ++ [true]) 1 = true :: turn (turnZ w (cd2 j)) := by
        have := rot_split (x := turn (turnZ w (cd2 j))) (y := [true]) (by simp)
        exact this
      have e6 : k + (cd2 j + 1) = 1 + (k + cd2 j) := by omega
      rw [e6, ← rot_rot (by simp), e5]
      congr 1
      unfold turn
      rw [ef]
      simp
    · have := congrArg List.length e
      simp at this ⊢
      omega
end L2.DL

set_option Elab.async false
set_option linter.all false
set_option autoImplicit false
set_option maxRecDepth 100000
/-! Shifts. -/
namespace L2.DL
open PySem PySem.Spec PyProof.Rows
section
variable {X : Cx} {F : Hp} {γ : Gm} {pos : Pos}
def shlD : D2
  | .int a, .int b, P => CPow a b ∧ P (.int (a * 2 ^ b.toNat))
  | _, _, _ => False
theorem o_shl : Op2 X F γ (binaryOp .LShift) shlD := by
  intro H0 H σ env c x y d e k Q R hx hy hf hk
  cases hx with
  | int i =>
    cases hy with
    | int j => exact ⟨_, op_shl, i, j, rfl, rfl, hf.1, hk _ _ _ _ hf.2 (Same.refl _) R (.int _)⟩
    | _ => exact (show False from hf).elim
  | _ => exact (show False from hf).elim
def shrD : D2
  | .int a, .int b, P => 0 ≤ b ∧ P (.int (a / 2 ^ b.toNat))
  | _, _, _ => False
theorem o_shr : Op2 X F γ (binaryOp .RShift) shrD := by
  intro H0 H σ env c x y d e k Q R hx hy hf hk
  cases hx with
  | int i =>
    cases hy with
    | int j => exact ⟨_, op_shr, i, j, rfl, rfl, hf.1, hk _ _ _ _ hf.2 (Same.refl _) R (.int _)⟩
    | _ => exact (show False from hf).elim
  | _ => exact (show False from hf).elim
theorem shlD_i {a b : Int} {P : D → Prop} : shlD (.int a) (.int b) P = (CPow a b ∧ P (.int (a * 2 ^ b.toNat))) := rfl
theorem shrD_i {a b : Int} {P : D → Prop} : shrD (.int a) (.int b) P = (0 ≤ b ∧ P (.int (a / 2 ^ b.toNat))) := rfl
end
end L2.DL

set_option Elab.async false
set_option linter.all false
set_option autoImplicit false
set_option maxRecDepth 100000
/-! Lots, ballot numbers, numbers of words. -/
namespace L2.DL
/-- lots of k among m, as the program goes -/
def lt (m : Nat) : Nat → Nat
  | 0 => 1
  | k + 1 => lt m k * (m - k) / (k + 1)
def ch : Nat → Nat → Nat
  | _, 0 => 1
  | 0, _ + 1 => 0
  | n + 1, k + 1 => ch n k + ch n (k + 1)
theorem ch_0 (n : Nat) : ch n 0 = 1 := by cases n <;> rfl
theorem ch_big : ∀ (n k : Nat), n < k → ch n k = 0
  | n, 0, h => by omega
  | 0, _ + 1, _ => rfl
  | n + 1, k + 1, h => by
    show ch n k + ch n (k + 1) = 0
    rw [ch_big n k (by omega), ch_big n (k + 1) (by omega)]
theorem ch_mul : ∀ (n k : Nat), ch n (k + 1) * (k + 1) = ch n k * (n - k)
  | 0, k => by
    show 0 * (k + 1) = _
    rw [Nat.zero_mul, Nat.zero_sub, Nat.mul_zero]
  | n + 1, 0 => by
    have h : ch n 1 * 1 = ch n 0 * n := ch_mul n 0
    show (ch n 0 + ch n 1) * 1 = ch (n + 1) 0 * (n + 1)
    rw [ch_0] at h ⊢
    rw [ch_0]
    omega
  | n + 1, k + 1 => by
    have h1 := ch_mul n k
    have h2 := ch_mul n (k + 1)
    show (ch n (k + 1) + ch n (k + 2)) * (k + 2) = (ch n k + ch n (k + 1)) * (n + 1 - (k + 1))
    rw [Nat.add_sub_add_right, Nat.add_mul, Nat.add_mul, ← h1, h2]
    by_cases q : k < n
    · obtain ⟨m, rfl⟩ : ∃ m, n = k + 1 + m := ⟨n - (k + 1), by omega⟩
      rw [show k + 1 + m - (k + 1) = m by omega, show k + 1 + m - k = m + 1 by omega]
      generalize ch (k + 1 + m) (k + 1) = a
      rw [show k + 2 = (k + 1) + 1 from rfl, Nat.mul_add a (k + 1) 1, Nat.mul_add a m 1]
      omega
    · rw [ch_big n (k + 1) (by omega)]
      simp
theorem lt_ch (m : Nat) : ∀ k, lt m k = ch m k
  | 0 => (ch_0 m).symm
  | k + 1 => by
    show lt m k * (m - k) / (k + 1) = _
    rw [lt_ch m k, ← ch_mul, Nat.mul_div_cancel _ (Nat.succ_pos k)]
theorem ch_self : ∀ n, ch n n = 1
  | 0 => rfl
  | n + 1 => by
    show ch n n + ch n (n + 1) = 1
    rw [ch_self n, ch_big n (n + 1) (Nat.lt_succ_self n)]
theorem ch_symm : ∀ (n a b : Nat), a + b = n → ch n a = ch n b
  | n, 0, b, h => by
    obtain rfl : b = n := by omega
    rw [ch_0, ch_self]
  | n, a + 1, 0, h => by
    obtain rfl : a + 1 = n := by omega
    rw [ch_0, ch_self]
  | 0, a + 1, b + 1, h => by omega
  | n + 1, a + 1, b + 1, h => by
    show ch n a + ch n (a + 1) = ch n b + ch n (b + 1)
    rw [ch_symm n a (b + 1) (by omega), ch_symm n (a + 1) b (by omega), Nat.add_comm]
/-- how many ways r signs lead down from a height to 0, never below -/
def bal : Nat → Nat → Nat
  | 0, 0 => 1
  | 0, _ + 1 => 0
  | r + 1, 0 => bal r 1
  | r + 1, h + 1 => bal r h + bal r (h + 2)
theorem bal_big : ∀ (r h : Nat), r < h → bal r h = 0
  | _, 0, q => by omega
  | 0, _ + 1, _ => rfl
  | r + 1, h + 1, q => by
    show bal r h + bal r (h + 2) = 0
    rw [bal_big r h (by omega), bal_big r (h + 2) (by omega)]
theorem bal_self : ∀ r, bal r r = 1
  | 0 => rfl
  | r + 1 => by
    show bal r r + bal r (r + 2) = 1
    rw [bal_self r, bal_big r (r + 2) (by omega)]
theorem bal_le : ∀ (r h : Nat), bal r h ≤ 2 ^ r
  | 0, 0 => Nat.le_refl _
  | 0, _ + 1 => Nat.zero_le _
  | r + 1, 0 => by
    have := bal_le r 1
    show bal r 1 ≤ 2 ^ (r + 1)
    rw [Nat.pow_succ]
    omega
  | r + 1, h + 1 => by
    have h1 := bal_le r h
    have h2 := bal_le r (h + 2)
    show bal r h + bal r (h + 2) ≤ 2 ^ (r + 1)
    rw [Nat.pow_succ]
    omega
/-- lots, 0 below 0 -/
def chm (n o : Nat) : Nat := match o with | 0 => 0 | k + 1 => ch n k
theorem bal_ch : ∀ (r o z : Nat), o + z = r → o ≤ z → bal r (z - o) + chm r o = ch r o
  | 0, 0, 0, _, _ => rfl
  | 0, o, z + 1, h, _ => by omega
  | 0, o + 1, z, h, _ => by omega
  | r + 1, 0, z, h, _ => by
    obtain rfl : z = r + 1 := by omega
    rw [Nat.sub_zero, bal_self]
    rfl
  | r + 1, o + 1, z, h, q => by
    by_cases e : z = o + 1
    · subst e
      have h1 := bal_ch r o (o + 1) (by omega) (by omega)
      rw [show o + 1 - o = 1 by omega] at h1
      rw [Nat.sub_self]
      show bal r 1 + ch (r + 1) o = ch r o + ch r (o + 1)
      have h2 : ch r (o + 1) = ch r o := ch_symm r (o + 1) o (by omega)
      rw [h2]
      cases o with
      | zero =>
        rw [ch_0] at h1 ⊢
        rw [ch_0]
        have h3 : chm r 0 = 0 := rfl
        omega
      | succ k =>
        have h3 : ch (r + 1) (k + 1) = ch r k + ch r (k + 1) := rfl
        have h4 : chm r (k + 1) = ch r k := rfl
        rw [h3]
        omega
    · obtain ⟨m, rfl⟩ : ∃ m, z = o + 1 + (m + 1) := ⟨z - (o + 2), by omega⟩
      have h1 := bal_ch r (o + 1) (o + 1 + m) (by omega) (by omega)
      have h2 := bal_ch r o (o + 1 + (m + 1)) (by omega) (by omega)
      rw [show o + 1 + m - (o + 1) = m by omega] at h1
      rw [show o + 1 + (m + 1) - o = m + 2 by omega] at h2
      rw [show o + 1 + (m + 1) - (o + 1) = m + 1 by omega]
      show bal r m + bal r (m + 2) + ch (r + 1) o = ch r o + ch r (o + 1)
      have h3 : chm r (o + 1) = ch r o := rfl
      cases o with
      | zero =>
        rw [ch_0] at h2 h3 ⊢
        rw [ch_0]
        have h5 : chm r 0 = 0 := rfl
        omega
      | succ k =>
        have h5 : ch (r + 1) (k + 1) = ch r k + ch r (k + 1) := rfl
        have h4 : chm r (k + 1) = ch r k := rfl
        rw [h5]
        omega
/-- how many words are less than one that begins at a height -/
def num : Nat → List Bool → Nat
  | _, [] => 0
  | 0, true :: w => num 1 w
  | h + 1, true :: w => bal w.length h + num (h + 2) w
  | h, false :: w => num (h - 1) w
/-- the word with a number -/
def wat : Nat → Nat → Nat → List Bool
  | 0, _, _ => []
  | r + 1, 0, n => true :: wat r 1 n
  | r + 1, h + 1, n => if n < bal r h then false :: wat r h n else true :: wat r (h + 2) (n - bal r h)
theorem wat_len : ∀ (r h n : Nat), (wat r h n).length = r
  | 0, _, _ => rfl
  | r + 1, 0, n => by
    show (wat r 1 n).length + 1 = _
    rw [wat_len]
  | r + 1, h + 1, n => by
    unfold wat
    split <;> rw [List.length_cons, wat_len]
theorem wat_dy : ∀ (r h n : Nat), n < bal r h → dy h (wat r h n) = true
  | 0, 0, _, _ => rfl
  | 0, _ + 1, n, q => by
    have : n < 0 := q
    omega
  | r + 1, 0, n, q => wat_dy r 1 n q
  | r + 1, h + 1, n, q => by
    have q' : n < bal r h + bal r (h + 2) := q
    unfold wat
    split
    · rename_i z
      exact wat_dy r h n z
    · rename_i z
      exact wat_dy r (h + 2) _ (by omega)
theorem num_wat : ∀ (r h n : Nat), n < bal r h → num h (wat r h n) = n
  | 0, 0, n, q => by
    have : n < 1 := q
    show 0 = n
    omega
  | 0, _ + 1, n, q => by
    have : n < 0 := q
    omega
  | r + 1, 0, n, q => num_wat r 1 n q
  | r + 1, h + 1, n, q => by
    have q' : n < bal r h + bal r (h + 2) := q
    unfold wat
    split
    · rename_i z
      exact num_wat r h n z
    · rename_i z
      show bal (wat r (h + 2) _).length h + num (h + 2) (wat r (h + 2) _) = n
      rw [wat_len, num_wat r (h + 2) _ (by omega)]
      omega
theorem num_lt : ∀ (w : List Bool) (h : Nat), dy h w = true → num h w < bal w.length h
  | [], 0, _ => by decide
  | [], h + 1, q => by cases q
  | true :: w, 0, q => num_lt w 1 q
  | true :: w, h + 1, q => by
    have := num_lt w (h + 2) q
    show bal w.length h + num (h + 2) w < bal w.length h + bal w.length (h + 2)
    omega
  | false :: w, 0, q => by cases q
  | false :: w, h + 1, q => by
    have := num_lt w h q
    show num h w < bal w.length h + bal w.length (h + 2)
    omega
theorem wat_num : ∀ (w : List Bool) (h : Nat), dy h w = true → wat w.length h (num h w) = w
  | [], _, _ => rfl
  | true :: w, 0, q => by
    show true :: wat w.length 1 (num 1 w) = _
    rw [wat_num w 1 q]
  | true :: w, h + 1, q => by
    show (if bal w.length h + num (h + 2) w < bal w.length h then _ else true :: wat w.length (h + 2) (bal w.length h + num (h + 2) w - bal w.length h)) = _
    rw [if_neg (by omega), Nat.add_sub_cancel_left, wat_num w (h + 2) q]
  | false :: w, 0, q => by cases q
  | false :: w, h + 1, q => by
    have := num_lt w h q
    show (if num h w < bal w.length h then false :: wat w.length h (num h w) else _) = _
    rw [if_pos this, wat_num w h q]
/-- the law's table: heights above most are not gone through -/
def tb (most : Nat) : Nat → Nat → Nat
  | 0, 0 => 1
  | 0, _ + 1 => 0
  | r + 1, 0 => tb most r 1
  | r + 1, h + 1 => if most < h + 1 then 0 else tb most r h + if h + 1 < most then tb most r (h + 2) else 0
theorem tb_bal {most : Nat} (h0 : 1 ≤ most) : ∀ (r h : Nat), h ≤ most → r + h ≤ 2 * most → tb most r h = bal r h
  | 0, 0, _, _ => rfl
  | 0, _ + 1, _, _ => rfl
  | r + 1, 0, _, q => tb_bal h0 r 1 h0 (by omega)
  | r + 1, h + 1, p, q => by
    show (if most < h + 1 then 0 else tb most r h + if h + 1 < most then tb most r (h + 2) else 0) = bal r h + bal r (h + 2)
    rw [if_neg (by omega), tb_bal h0 r h (by omega) (by omega)]
    split
    · rw [tb_bal h0 r (h + 2) (by omega) (by omega)]
    · rw [bal_big r (h + 2) (by omega)]
end L2.DL

set_option Elab.async false
set_option linter.all false
set_option autoImplicit false
set_option maxRecDepth 100000
/-! Two items of an own list stored at once. -/
namespace L2.DL
open PySem PySem.Spec PyProof.Rows
section
variable {X : Cx} {F : Hp} {γ : Gm} {pos : Pos}
def wSwap (i : Nat) (wi wj : WE) (wa : WA) : WS := fun E env c => wa env c fun ds c1 => ∃ x y l, ds = [x, y] ∧ env[i]? = some (.own l) ∧ wi env c1 fun d c2 => ∃ n k, d = .int n ∧ ixN l.length n = some k ∧
  wj (env.set i (.own (l.set k x))) c2 fun e c3 => ∃ n2 k2, e = .int n2 ∧ ixN l.length n2 = some k2 ∧ E.nx (env.set i (.own ((l.set k x).set k2 y))) c3
theorem dsSwap (i : Nat) {ex ei ex2 ej a b : Expr} {wi wj : WE} {wa : WA} {p p2 p3 p4 : Pos} {k k2 : Nat} (hx : PE X ex (tVar i)) (hi : PE X ei (tG X.K F γ wi)) (hx2 : PE X ex2 (tVar i)) (hj : PE X ej (tG X.K F γ wj)) (ha : PA X [a, b] (tA X.K F γ wa)) (hc : X.calm = true := by rfl)
    (hs : swapsWithSole [.Tuple [.Subscript ex ei p3, .Subscript ex2 ej p4] k p] (.Tuple [a, b] k2 p2) pos.line X.env = pure false := by rfl) (hw : swappedStores [.Tuple [.Subscript ex ei p3, .Subscript ex2 ej p4] k p] (.Tuple [a, b] k2 p2) X.env = pure none := by rfl)
    (h1 : (assignEach [.Tuple [.Subscript ex ei p3, .Subscript ex2 ej p4] k p] X.env).map (·.2) = [assign (.Tuple [.Subscript ex ei p3, .Subscript ex2 ej p4] k p) X.env] := by rfl)
    (hn : (assignEach [.Subscript ex ei p3, .Subscript ex2 ej p4] X.env).length = 2 := by rfl) (hst : (assignEach [.Subscript ex ei p3, .Subscript ex2 ej p4] X.env).findIdx? (·.1) = none := by rfl)
    (hs1 : (assignEach [.Subscript ex ei p3, .Subscript ex2 ej p4] X.env).map (·.2) = assign (.Subscript ex ei p3) X.env :: (assignEach [.Subscript ex2 ej p4] X.env).map (·.2) := by rfl)
    (hs2 : (assignEach [.Subscript ex2 ej p4] X.env).map (·.2) = assign (.Subscript ex2 ej p4) X.env :: (assignEach [] X.env).map (·.2) := by rfl)
    (h3 : ∀ v, assign (.Subscript ex ei p3) X.env v = (do
      let ov ← holding [v] (eval ex X.env)
      let iv ← holding [v, ov] (eval ei X.env)
      standAt p3
      holding [v, ov, iv] (setItem ov iv v)
      release [v, ov, iv] []) := by intro _; rfl)
    (h4 : ∀ v, assign (.Subscript ex2 ej p4) X.env v = (do
      let ov ← holding [v] (eval ex2 X.env)
      let iv ← holding [v, ov] (eval ej X.env)
      standAt p4
      holding [v, ov, iv] (setItem ov iv v)
      release [v, ov, iv] []) := by intro _; rfl) :
    PS X (.Assign [.Tuple [.Subscript ex ei p3, .Subscript ex2 ej p4] k p] (.Tuple [a, b] k2 p2) pos) (tS X.K F γ (wSwap i wi wj wa)) :=
  PS.imp (ps_asg (pe_tup ha) (pg_tup hc (pgs_cons (pg_sub hx hi set_list h3) (pgs_cons (pg_sub hx2 hj set_list h4) pgs_nil hs2) hs1) hn hst) hs hw h1) fun E σ H h => by
  obtain ⟨H0, env, c, D, R, q, k1, k2, k3, k4⟩ := h
  refine ⟨H0, env, c, _, R, q, fun ds c1 vs H1 H01 ⟨x, y, l, e, el, q1⟩ s1 R1 h1 => ?_⟩
  subst e
  obtain ⟨va, vb, rfl, h2, h3⟩ := h1.inv2
  refine ⟨by show 2 ≤ sizeLine; decide, fun p hp => ?_⟩
  have f := Same.new (o := .tup [va, vb]) (R1.core.sub.free hp)
  have R2 := R1.alloc (o := .tup [va, vb]) hp
  refine ⟨p, [va, vb], rfl, SqT.of upd_same, rfl, va, [vb], rfl, ?_⟩
  obtain ⟨a, vs, a0, a1, v1, z1⟩ := R2.own_at el
  refine ⟨.ref a, a0, _, env, c1, _, R2, q1, fun d2 c2 v2 H2 H02 ⟨n, k, e2, e3, q2⟩ s2 R3 h4 => ?_⟩
  subst e2
  cases h4
  obtain ⟨a', vs', a0', a2, v2', z2⟩ := R3.own_at el
  rw [a0] at a0'
  cases a0'
  have R4 := R3.writeOwn a0 el (by rw [List.length_set]; exact z2) (v2'.set ((h2.mono f).mono s2) k)
  refine ⟨a, vs', n, k, rfl, rfl, a2, by rw [v2'.length]; exact e3, vb, [], rfl, .ref a, a0, H02, _, c2, _, R4, q2, fun d3 c3 v3 H3 H03 ⟨n2, k2, e4, e5, q3⟩ s3 R5 h5 => ?_⟩
  subst e4
  cases h5
  have hlt : i < env.length := (List.getElem?_eq_some_iff.mp el).1
  have el2 : (env.set i (.own (l.set k x)))[i]? = some (.own (l.set k x)) := by rw [List.getElem?_set_self hlt]
  obtain ⟨a', vs2, a0', a3, v3', z3⟩ := R5.own_at el2
  rw [a0] at a0'
  cases a0'
  have R6 := R5.writeOwn a0 el2 (by rw [List.length_set]; exact z3) (v3'.set (((h3.mono f).mono s2).mono s3) k2)
  rw [List.set_set] at R6
  refine ⟨a, vs2, n2, k2, rfl, rfl, a3, by rw [v3'.length, List.length_set]; exact e5, rfl, ?_⟩
  exact k1 _ _ _ _ _ q3 (((s1.trans f).trans s2).trans s3) R6
/-! ### fresh lists by + and * -/
def wCatO (wa wb : WE) : WI := fun env c P => wa env c fun x c1 => wb env c1 fun y c2 => ∃ ds es, x = .lst ds ∧ y = .lst es ∧ ds.length + es.length ≤ sizeLine ∧ P (ds ++ es) c2
theorem oCat {a b : Expr} {wa wb : WE} (ha : PE X a (tG X.K F γ wa)) (hb : PE X b (tG X.K F γ wb)) : PE X (.BinOp a .Add b pos) (tO X.K F γ (wCatO wa wb)) := by
  refine ⟨fun pins s σ H Q I h => ?_⟩
  have h' : tG X.K F γ wa σ H fun x H1 => tG X.K F γ wb σ H1 fun y H2 => rCat x y H2 Q := by
    obtain ⟨H0, env, c, P, R, q, k⟩ := h
    refine ⟨H0, env, c, _, R, q, fun d c1 v H1 H01 q1 s1 R1 h1 => ?_⟩
    refine ⟨H01, env, c1, _, R1, q1, fun e c2 u H2 H02 ⟨ds, es, e1, e2, hl, q2⟩ s2 R2 h2 => ?_⟩
    subst e1 e2
    have h1 := h1.mono s2
    cases h1 with
    | lst g1 g2 =>
      cases h2 with
      | lst g3 g4 =>
        refine ⟨_, _, _, _, rfl, rfl, R2.core.sub _ _ g1, R2.core.sub _ _ g3, by rw [g2.length, g4.length]; exact hl, fun p hp => ?_⟩
        exact k _ _ _ _ _ q2 (s1.trans s2) (R2.allocOwn hp) (R2.ownNew hp (by rw [List.length_append, g2.length, g4.length]; exact hl) (g2.append g4))
  refine wpAny_BinOp (binT ha hb I h' fun v u s2 x y H2 I2 rx ry q => ?_)
  exact op_cat pins s2 σ H2 x y v u Q I2 rx ry q
def wMulO (wa wb : WE) : WI := fun env c P => wa env c fun x c1 => wb env c1 fun y c2 => ∃ ds n, x = .lst ds ∧ y = .int n ∧ -(2 ^ 62) ≤ n ∧ n < 2 ^ 62 ∧ ds.length * n.toNat ≤ sizeLine ∧ P (List.replicate n.toNat ds).flatten c2
theorem oMul {a b : Expr} {wa wb : WE} (ha : PE X a (tG X.K F γ wa)) (hb : PE X b (tG X.K F γ wb)) : PE X (.BinOp a .Mult b pos) (tO X.K F γ (wMulO wa wb)) := by
  refine ⟨fun pins s σ H Q I h => ?_⟩
  have h' : tG X.K F γ wa σ H fun x H1 => tG X.K F γ wb σ H1 fun y H2 => ∃ (a : Addr) (n : Int) (vs : List V), x = .ref a ∧ y = .int n ∧ H2 a = some (.lst vs) ∧ -(2 ^ 62) ≤ n ∧ n < 2 ^ 62 ∧ vs.length * n.toNat ≤ sizeLine ∧ ∀ p, H2 p = none → Q (.ref p) (upd H2 p (.lst (List.replicate n.toNat vs).flatten)) := by
    obtain ⟨H0, env, c, P, R, q, k⟩ := h
    refine ⟨H0, env, c, _, R, q, fun d c1 v H1 H01 q1 s1 R1 h1 => ?_⟩
    refine ⟨H01, env, c1, _, R1, q1, fun e c2 u H2 H02 ⟨ds, n, e1, e2, l0, l1, hl, q2⟩ s2 R2 h2 => ?_⟩
    subst e1 e2
    have h1 := h1.mono s2
    cases h2
    cases h1 with
    | lst g1 g2 =>
      refine ⟨_, n, _, rfl, rfl, R2.core.sub _ _ g1, l0, l1, by rw [g2.length]; exact hl, fun p hp => ?_⟩
      have hv := g2.rep n.toNat
      have hlen : (List.replicate n.toNat ds).flatten.length = ds.length * n.toNat := by
        generalize n.toNat = m
        induction m with
        | zero => rfl
        | succ m ih => rw [List.replicate_succ, List.flatten_cons, List.length_append, ih, Nat.mul_succ, Nat.add_comm]
      exact k _ _ _ _ _ q2 (s1.trans s2) (R2.allocOwn hp) (R2.ownNew hp (by rw [hv.length, hlen]; exact hl) hv)
  refine wpAny_BinOp (binT ha hb I h' fun v u s2 x y H2 I2 rx ry ⟨a, n, vs, e1, e2, g, l0, l1, hl, q⟩ => ?_)
  subst e1 e2
  exact op_rep pins s2 σ H2 _ _ v u Q I2 rx ry ⟨_, n, _, rfl, rfl, g, by omega, by omega, hl, q⟩
end
theorem e_Swap {E : WEnds} {env : List Sl} {c : Nat} {i : Nat} {wi wj : WE} {wa : WA} : wSwap i wi wj wa E env c = wa env c fun ds c1 => ∃ x y l, ds = [x, y] ∧ env[i]? = some (.own l) ∧ wi env c1 fun d c2 => ∃ n k, d = .int n ∧ ixN l.length n = some k ∧
  wj (env.set i (.own (l.set k x))) c2 fun e c3 => ∃ n2 k2, e = .int n2 ∧ ixN l.length n2 = some k2 ∧ E.nx (env.set i (.own ((l.set k x).set k2 y))) c3 := rfl
end L2.DL

set_option Elab.async false
set_option linter.all false
set_option autoImplicit false
set_option maxRecDepth 100000
/-! Each state has a home. -/
namespace L2.DL
open PySem PySem.Spec
/-- m blocks, each a word (perhaps empty) and a 0 -/
inductive Blk : Nat → List Bool → Prop
  | nil : Blk 0 []
  | snoc {m : Nat} {a y : List Bool} : Blk m a → dy 0 y = true → Blk (m + 1) (a ++ (y ++ [false]))
theorem ht_dy {x r : List Bool} {d e : Nat} (h : ht d x = some e) : dy d (x ++ r) = dy e r := by
  rw [Bool.eq_iff_iff, dy_ht, dy_ht, ht_app, h]
  rfl
theorem Blk.dy {m : Nat} {a : List Bool} (h : Blk m a) : ∀ (e : Nat) (r : List Bool), L2.DL.dy (m + e) (a ++ r) = L2.DL.dy e r := by
  induction h with
  | nil => intro e r; rw [Nat.zero_add, List.nil_append]
  | @snoc m a y h1 h2 ih =>
    intro e r
    rw [List.append_assoc, show m + 1 + e = m + (1 + e) by omega, ih, List.append_assoc]
    have := dy_app y ([false] ++ r) 0 (1 + e) h2
    rw [Nat.zero_add] at this
    rw [this, Nat.add_comm]
    rfl
theorem Blk.cnt {m : Nat} {a : List Bool} (h : Blk m a) : a.count false = a.count true + m := by
  induction h with
  | nil => rfl
  | @snoc m a y h1 h2 ih =>
    have := dy_tot y 0 h2
    simp only [List.count_append]
    have e1 : ([false] : List Bool).count false = 1 := rfl
    have e2 : ([false] : List Bool).count true = 0 := rfl
    omega
theorem ht_cnt : ∀ (x : List Bool) (d e : Nat), ht d x = some e → x.count true + d = x.count false + e
  | [], d, e, h => by
    cases h
    simp
  | true :: x, d, e, h => by
    have := ht_cnt x (d + 1) e h
    simp only [List.count_cons_self, List.count_cons]
    have : (true == false) = false := rfl
    simp
    omega
  | false :: _, 0, e, h => by cases h
  | false :: x, d + 1, e, h => by
    have := ht_cnt x d e h
    simp only [List.count_cons]
    simp
    omega
theorem cut_low (l : List Bool) : ∃ a b m h, l = a ++ b ∧ Blk m a ∧ ht 0 b = some h := by
  have key : ∀ r : List Bool, ∃ a b m h, r.reverse = a ++ b ∧ Blk m a ∧ ht 0 b = some h := by
    intro r
    induction r with
    | nil => exact ⟨[], [], 0, 0, rfl, .nil, rfl⟩
    | cons s r ih =>
      obtain ⟨a, b, m, h, e, hb, hh⟩ := ih
      rw [List.reverse_cons, e, List.append_assoc]
      cases s with
      | true => exact ⟨a, b ++ [true], m, h + 1, rfl, hb, by rw [ht_app, hh]; rfl⟩
      | false =>
        cases h with
        | zero => exact ⟨a ++ (b ++ [false]), [], m + 1, 0, by rw [List.append_nil], .snoc hb ((dy_ht b 0).mpr hh), rfl⟩
        | succ h => exact ⟨a, b ++ [false], m, h, rfl, hb, by rw [ht_app, hh]; rfl⟩
  have := key l.reverse
  rwa [List.reverse_reverse] at this
theorem count_two (l : List Bool) : l.count true + l.count false = l.length := by
  induction l with
  | nil => rfl
  | cons b l ih =>
    cases b <;> simp [List.count_cons] <;> omega
theorem low_has {l : List Bool} (h : l.count false = l.count true + 1) : ∃ (w : List Bool) (k : Nat), dy 0 w = true ∧ l = st w k false ∧ l.length = w.length + 1 := by
  obtain ⟨a, b, m, e, rfl, hb, hh⟩ := cut_low l
  have c1 := hb.cnt
  have c2 := ht_cnt _ _ _ hh
  simp only [List.count_append] at h
  have hm : m = e + 1 := by omega
  subst hm
  cases hb with
  | @snoc _ a y h1 h2 =>
    refine ⟨b ++ (a ++ y), (a ++ (y ++ [false])).length, ?_, ?_, by simp; omega⟩
    · rw [ht_dy hh, show e = e + 0 from rfl, h1.dy]
      exact h2
    · unfold st
      rw [show b ++ (a ++ y) ++ [false] = b ++ (a ++ (y ++ [false])) by simp, rot_split (by simp)]
theorem mir_count (l : List Bool) (b : Bool) : (mir l).count b = l.count (!b) := by
  unfold mir
  induction l with
  | nil => rfl
  | cons x l ih =>
    simp only [List.reverse_cons, List.map_append, List.count_append, List.map_cons, List.map_nil, List.count_cons, List.count_nil] at ih ⊢
    first | rw [ih] | skip
    cases x <;> cases b <;> simp_all
/-- each state is at a home -/
theorem st_has {l : List Bool} (h : stok l = true) : ∃ (w : List Bool) (k : Int) (b : Bool), wok w = true ∧ l = st w k b ∧ 0 ≤ k ∧ k < ((w.length + 1 : Nat) : Int) ∧ w.length + 1 = l.length := by
  have key : ∃ (w : List Bool) (k : Int) (b : Bool), dy 0 w = true ∧ l = st w k b ∧ l.length = w.length + 1 := by
    unfold stok at h
    simp only [Bool.and_eq_true, Bool.or_eq_true, decide_eq_true_eq] at h
    obtain ⟨⟨⟨h1, h2⟩, h3⟩, h4⟩ := h
    have hc := count_two l
    rcases h4 with h4 | h4
    · obtain ⟨w, k, e1, e2, e3⟩ := low_has (l := l) (by omega)
      exact ⟨w, k, false, e1, e2, e3⟩
    · obtain ⟨w, k, e1, e2, e3⟩ := low_has (l := mir l) (by rw [mir_count, mir_count]; simp; omega)
      rw [mir_len] at e3
      refine ⟨mir w, 1 - (k : Int), true, dy_mir _ _ (Nat.le_refl _) e1, ?_, by rw [mir_len]; exact e3⟩
      rw [← mir_mir l, e2, mir_st]
      rfl
  obtain ⟨w, k, b, e1, e2, e3⟩ := key
  unfold stok at h
  simp only [Bool.and_eq_true, decide_eq_true_eq] at h
  refine ⟨w, k % ((w.length + 1 : Nat) : Int), b, wok_iff.mpr ⟨e1, by omega, by omega⟩, by rw [st_mod]; exact e2, Int.emod_nonneg _ (by omega), Int.emod_lt_of_pos _ (by omega), e3.symm⟩
end L2.DL

set_option Elab.async false
set_option linter.all false
set_option autoImplicit false
set_option maxRecDepth 100000
/-! Comprehensions of two clauses (no tests). -/
namespace L2.DL
open PySem PySem.Spec PyProof.Rows
section
variable {J : It} {n : Nat} {G : Hp → Prop} {Y : Nat → Hp → V → Hp → Prop}
theorem in_it (w : Walk J n G Y) {g : TG} {tt : TT} {te : TE} {vs : List Nat} {σ : St} {H1 : Hp} {D : Addr} {Qd : Hp → Prop} (Pv : Nat → Hp → Prop) (h0 : Pv 0 H1) (hG : ∀ i H, i ≤ n → Pv i H → G H)
    (hs : ∀ i x H H', i < n → Pv i H → Y i H x H' → g x (wipe σ vs) H' fun σ2 H2 => wipe σ2 vs = wipe σ vs ∧ tt σ2 H2 fun b H3 =>
      if b = true then te σ2 H3 fun y H4 => ∃ acc, H4 D = some (.lst acc) ∧ acc.length < sizeLine ∧ Pv (i + 1) (upd H4 D (.lst (acc ++ [y]))) else Pv (i + 1) H3) (hd : ∀ H, Pv n H → Qd H) :
    ∃ W : Nat → Nat → Hp → Prop, (∃ m, W 0 m H1) ∧ ∀ i m H, W i m H →
      (J.stop i H ∧ Qd H) ∨ (J.go i H ∧ ∃ Nx : Hp → Prop, (∀ H', Nx H' → ∃ m', m' < m ∧ W (i + 1) m' H') ∧ ∀ x H', J.yld i H x H' → g x (wipe σ vs) H' fun σ2 H2 => wipe σ2 vs = wipe σ vs ∧ tt σ2 H2 fun b H3 =>
        if b = true then te σ2 H3 fun y H4 => ∃ acc, H4 D = some (.lst acc) ∧ acc.length < sizeLine ∧ Nx (upd H4 D (.lst (acc ++ [y]))) else Nx H3) := by
  refine ⟨fun i m H => m = n - i ∧ i ≤ n ∧ Pv i H, ⟨n, by simp, Nat.zero_le _, h0⟩, ?_⟩
  rintro i m H ⟨rfl, hi, p⟩
  have q := hG i H hi p
  by_cases hlt : i < n
  · refine .inr ⟨w.goes i H hlt q, Pv (i + 1), fun H' p' => ⟨n - (i + 1), by omega, rfl, hlt, p'⟩, fun x H' y => hs i x H H' hlt p (w.yields i H x H' hlt q y)⟩
  · have e : i = n := by omega
    subst e
    exact .inl ⟨w.stops H q, hd H p⟩
end
def comp2N (g : WG) (wi1 : WI) (g1 : WG) (te : WE) (vs1 : List Nat) (env : List Sl) : List D → Nat → (List D → Nat → Prop) → Prop
  | [], c, P => P [] c
  | d :: ds, c, P => g d env fun env1 => wi1 env1 c fun es c1 => noOwn env1 vs1 = true ∧ es.length ≤ 1000 ∧ compN g1 tYesG te (wipeE env1 vs1) es c1 fun ys c2 => ys.length ≤ 1000 ∧ comp2N g wi1 g1 te vs1 env ds c2 fun zs c3 => P (ys ++ zs) c3
def wComp2 (wi : WI) (g : WG) (wi1 : WI) (g1 : WG) (te : WE) (vs vs1 : List Nat) : WI := fun env c P => wi env c fun ds c1 => noOwn env vs = true ∧ ds.length ≤ 15000 ∧ comp2N g wi1 g1 te vs1 (wipeE env vs) ds c1 P
def exI (K : PySem.W.Frag) (γ : Gm) (w : WI) : TI := fun σ H R => ∃ F', iG K F' γ w σ H R
section
variable {F : Hp} {γ : Gm}
theorem Rep.apart_of {K : PySem.W.Frag} {H0 H : Hp} {σ : St} {env : List Sl} {c : Nat} {A : Addr} {o : HO} (R : Rep K (upd F A o) γ H0 H σ env c) (i : Nat) (es : OT) (h1 : σ[i]? = some (some (.ref A))) (h2 : env[i]? = some (.ow es)) : False := by
  obtain ⟨a, vs, e, g, f, _⟩ := R.at_ i _ _ h1 h2
  cases e
  rw [upd_same] at f
  cases f
theorem lc2_read {K : PySem.W.Frag} {wi wi1 : WI} {g g1 : WG} {is is1 : List Nat} {we : WE} {vs vs1 : List Nat} (his : ∀ i ∈ is, i ∈ vs) (his1 : ∀ i ∈ is1, i ∈ vs1) (hsub : ∀ i ∈ vs1, i ∈ vs) {σ : St} {H : Hp} {Q : VK} (h : tO K F γ (wComp2 wi g wi1 g1 we vs vs1) σ H Q) :
    tLc2 (iG K F γ wi) (exG K γ is g) (exT K γ tYesG) (exI K γ wi1) (exG K γ is1 g1) (exT K γ tYesG) (exE K γ we) vs vs1 σ H Q := by
  obtain ⟨H0, env, c, P, R, q, k⟩ := h
  refine ⟨H0, env, c, _, R, q, fun ds c1 H1 H01 J ⟨no, hz, q1⟩ s1 R1 wk => ?_⟩
  intro A hA
  have szl : sizeLine = 16777216 := rfl
  let Pv : Nat → Hp → Prop := fun i H => ∃ H0c c acc us, Same H01 H0c ∧ Rep K F γ H0c H σ env c ∧ H A = some (.lst acc) ∧ acc.length ≤ i * 1000 ∧ HasL K H0c acc us ∧ Own K F γ H0c H σ env A (.l us) ∧ comp2N g wi1 g1 we vs1 (wipeE env vs) (ds.drop i) c (fun ys c3 => P (us ++ ys) c3)
  have start : Pv 0 (upd H1 A (.lst [])) := ⟨H01, c1, [], [], Same.refl _, R1.allocOwn hA, upd_same, Nat.le_refl _, .nil, R1.ownNew hA (Nat.zero_le _) .nil, by simpa using q1⟩
  refine ⟨fun i m H => m = ds.length - i ∧ i ≤ ds.length ∧ Pv i H, ⟨ds.length, by simp, Nat.zero_le _, start⟩, ?_⟩
  rintro i m H ⟨rfl, hi, p⟩
  have hG : Same H01 H := by
    obtain ⟨H0c, _, _, _, s, R, _⟩ := p
    exact s.trans R.core.sub
  by_cases hlt : i < ds.length
  · refine .inr ⟨wk.goes i H hlt hG, Pv (i + 1), fun H' p' => ⟨ds.length - (i + 1), by omega, rfl, hlt, p'⟩, fun x H' y => ?_⟩
    obtain ⟨d, hd, y⟩ := wk.yields i H x H' hlt hG y
    obtain ⟨H0c, c, acc, us, s2, R2, a2, l2, u2, O2, q2⟩ := p
    have e : ds.drop i = d :: ds.drop (i + 1) := by
      obtain ⟨h4, h5⟩ := List.getElem?_eq_some_iff.mp hd
      rw [List.drop_eq_getElem_cons h4, h5]
    rw [e] at q2
    have ap := O2.apart
    obtain ⟨H0n, s3, RF, h3⟩ := y.rep s2 (R2.intoFrame O2.g O2.z a2 noTab_lst ap)
    refine ⟨upd F A (.lst acc), H0n, _, c, d, _, RF.wipe vs, h3, q2, fun σ2 env2 q3 R4 w4 => ?_⟩
    obtain ⟨w5, w6⟩ := w4 vs his
    rw [wipe_idem] at w5
    rw [wipeE_idem] at w6
    refine ⟨w5, upd F A (.lst acc), H0n, env2, c, fun b c' => b = true ∧ c' = c, R4, ⟨rfl, rfl⟩, fun b c3 H3 H03 ⟨eb, ec⟩ s4 R5 => ?_⟩
    subst eb ec
    rw [if_pos rfl]
    refine ⟨upd F A (.lst acc), H03, env2, c3, _, R5, q3, fun es c4 H4 H04 J1 ⟨no1, hz1, q4⟩ s5 R6 wk1 => ?_⟩
    -- the inner walk: σ2, env2
    have s34 := (s3.trans s4).trans s5
    obtain ⟨h7, z7⟩ := R6.core.frm A _ upd_same
    have R7 := R6.outFrame O2.f
    have ap2 : ∀ (j : Nat) (fs : OT), σ2[j]? = some (some (.ref A)) → env2[j]? = some (.ow fs) → False := fun j fs h1 h2 => R6.apart_of j fs h1 h2
    refine in_it wk1 (g := exG K γ is1 g1) (tt := exT K γ tYesG) (te := exE K γ we) (σ := σ2) (vs := vs1) (D := A) (H1 := H4) (Qd := Pv (i + 1)) (fun j H => ∃ H0c' c acc' us', Same H04 H0c' ∧ Rep K F γ H0c' H σ2 env2 c ∧ H A = some (.lst acc') ∧ acc'.length ≤ acc.length + j ∧ HasL K H0c' acc' us' ∧ Own K F γ H0c' H σ2 env2 A (.l us') ∧ us.length ≤ us'.length ∧
      ∃ zs, us' = us ++ zs ∧ compN g1 tYesG we (wipeE env2 vs1) (es.drop j) c fun ys c2 => (zs ++ ys).length ≤ 1000 ∧ comp2N g wi1 g1 we vs1 (wipeE env vs) (ds.drop (i + 1)) c2 fun ts c3 => P (us ++ ((zs ++ ys) ++ ts)) c3) ?_ (fun j H _ ⟨H0c', _, _, _, s, R, _⟩ => s.trans R.core.sub) ?_ ?_
    · exact ⟨H04, c4, acc, us, Same.refl _, R7, h7, Nat.le_refl _, u2.mono s34, ⟨O2.g, O2.f, z7, ⟨_, h7, acc, rfl, by omega, u2.mono s34⟩, ap2⟩, Nat.le_refl _, [], (List.append_nil _).symm, by simpa using q4⟩
    · rintro j x' Ha Hb hj ⟨H0c', c', acc', us', t2, Q2, b2, m2, v2, P2, l3, zs, ez, r2⟩ ⟨d', hd', y'⟩
      have e' : es.drop j = d' :: es.drop (j + 1) := by
        obtain ⟨h4, h5⟩ := List.getElem?_eq_some_iff.mp hd'
        rw [List.drop_eq_getElem_cons h4, h5]
      rw [e'] at r2
      have ap' := P2.apart
      obtain ⟨H0n', t3, QF, g3⟩ := y'.rep t2 (Q2.intoFrame P2.g P2.z b2 noTab_lst ap')
      refine ⟨upd F A (.lst acc'), H0n', _, c', d', _, QF.wipe vs1, g3, r2, fun σ3 env3 r3 Q4 w4' => ?_⟩
      obtain ⟨w7, w8⟩ := w4' vs1 his1
      rw [wipe_idem] at w7
      rw [wipeE_idem] at w8
      refine ⟨w7, upd F A (.lst acc'), H0n', env3, c', fun b c'' => b = true ∧ c'' = c', Q4, ⟨rfl, rfl⟩, fun b c5 H5 H05 ⟨eb, ec⟩ t4 Q5 => ?_⟩
      subst eb ec
      rw [if_pos rfl]
      refine ⟨upd F A (.lst acc'), H05, env3, c5, _, Q5, r3, fun d6 c6 v6 H6 H06 r6 t6 Q7 g6 => ?_⟩
      have Q8 := QF.back Q7 (t4.trans t6) w7 w8 no1
      obtain ⟨g7, y7⟩ := Q8.core.frm A _ upd_same
      have t14 := ((t2.trans t3).trans t4).trans t6
      have t34 := (t3.trans t4).trans t6
      have Q9 := Q8.outFrame O2.f
      have hac : acc'.length < sizeLine := by
        have sz : sizeLine = 16777216 := rfl
        have := Nat.mul_le_mul_right 1000 (show i ≤ 15000 by omega)
        omega
      have hv : HasL K H06 (acc' ++ [v6]) (us' ++ [d6]) := (v2.mono t34).append (.cons g6 .nil)
      have hz2 : (acc' ++ [v6]).length ≤ sizeLine := by rw [List.length_append, List.length_singleton]; omega
      refine ⟨acc', g7, hac, H06, c6, acc' ++ [v6], us' ++ [d6], t14, Q9.writeOut O2.g O2.f y7 (fun u eu => by rw [g7] at eu; cases eu; exact noTab_lst) ap', upd_same, by rw [List.length_append, List.length_singleton]; omega, hv, ⟨O2.g, O2.f, y7, ⟨_, upd_same, _, rfl, hz2, hv⟩, ap'⟩, by rw [List.length_append]; omega, zs ++ [d6], by rw [ez, List.append_assoc], ?_⟩
      have e2 : (fun (ys : List D) (c2 : Nat) => (zs ++ d6 :: ys).length ≤ 1000 ∧ comp2N g wi1 g1 we vs1 (wipeE env vs) (ds.drop (i + 1)) c2 fun ts c3 => P (us ++ ((zs ++ d6 :: ys) ++ ts)) c3) = fun ys c2 => (zs ++ [d6] ++ ys).length ≤ 1000 ∧ comp2N g wi1 g1 we vs1 (wipeE env vs) (ds.drop (i + 1)) c2 fun ts c3 => P (us ++ ((zs ++ [d6] ++ ys) ++ ts)) c3 := by
        funext ys c2
        rw [List.append_assoc zs [d6] ys]
        rfl
      rw [← e2]
      exact r6
    · rintro Hz ⟨H0c', c', acc', us', t2, Q2, b2, m2, v2, P2, l3, zs, ez, r2⟩
      rw [List.drop_length] at r2
      have r2' : (zs ++ []).length ≤ 1000 ∧ comp2N g wi1 g1 we vs1 (wipeE env vs) (ds.drop (i + 1)) c' fun ts c3 => P (us ++ ((zs ++ []) ++ ts)) c3 := r2
      rw [List.append_nil] at r2'
      have R8 := (R2.intoFrame O2.g O2.z a2 noTab_lst ap)
      have ss : Same H0c H0c' := s34.trans t2
      have Rb := R2.back Q2 ss w5 w6 no
      have hal : acc'.length = us'.length := v2.length
      have haul : acc.length = us.length := u2.length
      refine ⟨H0c', c', acc', us', s2.trans ss, Rb, b2, ?_, v2, ⟨P2.g, P2.f, P2.z, P2.h, ap⟩, ?_⟩
      · rw [hal, ez, List.length_append]
        have := r2'.1
        omega
      · have e2 : (fun (ts : List D) (c3 : Nat) => P (us ++ (zs ++ ts)) c3) = fun ts c3 => P (us' ++ ts) c3 := by
          funext ts c3
          rw [ez, List.append_assoc]
        rw [← e2]
        exact r2'.2
  · have e : i = ds.length := by omega
    subst e
    refine .inl ⟨wk.stops H hG, ?_⟩
    obtain ⟨H0c, c, acc, us, s2, R2, a2, l2, u2, O2, q2⟩ := p
    rw [List.drop_length] at q2
    refine k us c A H H0c ?_ (s1.trans s2) R2 O2
    have q2' : P (us ++ []) c := q2
    rwa [List.append_nil] at q2'
end
section
variable {X : Cx} {F : Hp} {γ : Gm} {pos : Pos}
theorem oComp2 {elt tg iter tg1 iter1 : Expr} {scope : Scope} {own : List (Str × Nat)} {wi wi1 : WI} {g g1 : WG} {is is1 vs1 : List Nat} {we : WE} (hi : PI X tg iter (iG X.K F γ wi)) (ok : blkC X.N X.env.scope scope own = true)
    (hg : ∀ (F' : Hp) (s : Shared) (H : Hp) (C : Addr) (cl : List (Str × Addr)) (fp : List Addr), PG (X.blk s H scope (compEnvC scope cl C X.env) fp) tg (tgG X.K F' γ is g))
    (hi1 : ∀ (F' : Hp) (s : Shared) (H : Hp) (C : Addr) (cl : List (Str × Addr)) (fp : List Addr), PI (X.blk s H scope (compEnvC scope cl C X.env) fp) tg1 iter1 (iG X.K F' γ wi1))
    (hg1 : ∀ (F' : Hp) (s : Shared) (H : Hp) (C : Addr) (cl : List (Str × Addr)) (fp : List Addr), PG (X.blk s H scope (compEnvC scope cl C X.env) fp) tg1 (tgG X.K F' γ is1 g1))
    (he : ∀ (F' : Hp) (s : Shared) (H : Hp) (C : Addr) (cl : List (Str × Addr)) (fp : List Addr), PE (X.blk s H scope (compEnvC scope cl C X.env) fp) elt (tG X.K F' γ we)) (hN : X.N.Nodup) (his : ∀ i ∈ is, i ∈ own.map (·.2) := by decide) (his1 : ∀ i ∈ is1, i ∈ vs1 := by decide) (hsub : ∀ i ∈ vs1, i ∈ own.map (·.2) := by decide) (hc : X.calm = true := by rfl)
    (hs : ∀ x, foldedSetIterable iter X.env x = pure x := by intro _; rfl) (hs1 : ∀ env x, foldedSetIterable iter1 env x = pure x := by intro _ _; rfl) :
    PE X (.ListComp elt [⟨tg, iter, [], 0⟩, ⟨tg1, iter1, [], 0⟩] scope pos) (tO X.K F γ (wComp2 wi g wi1 g1 we (own.map (·.2)) vs1)) :=
  PE.imp (pe_lc2 (wi := iG X.K F γ wi) (g := exG X.K γ is g) (tt := exT X.K γ tYesG) (wi1 := exI X.K γ wi1) (g1 := exG X.K γ is1 g1) (tt1 := exT X.K γ tYesG) (te := exE X.K γ we) hc hN hi (blkOk_by ok) hsub (fun s H C cl fp => ⟨fun pins s' σ H' v u Q I r ⟨F', h⟩ => (hg F' s H C cl fp).run pins s' σ H' v u Q I r h⟩) (fun s H C cl fp => ⟨fun pins s' σ H' Q I ⟨F', h⟩ => (dtYes (F := F')).run pins s' σ H' Q I h⟩)
    (fun s H C cl fp => ⟨fun pins s' σ H' R I ⟨F', h⟩ => (hi1 F' s H C cl fp).run pins s' σ H' R I h⟩) (fun s H C cl fp => ⟨fun pins s' σ H' v u Q I r ⟨F', h⟩ => (hg1 F' s H C cl fp).run pins s' σ H' v u Q I r h⟩) (fun s H C cl fp => ⟨fun pins s' σ H' Q I ⟨F', h⟩ => (dtYes (F := F')).run pins s' σ H' Q I h⟩)
    (fun s H C cl fp => ⟨fun pins s' σ H' Q I ⟨F', h⟩ => (he F' s H C cl fp).run pins s' σ H' Q I h⟩) hs hs1) fun σ H Q h => lc2_read his his1 hsub h
theorem setLc2Go (i : Nat) {y : Str} {py spos : Pos} {elt tg iter tg1 iter1 : Expr} {scope : Scope} {own : List (Str × Nat)} {wi wi1 : WI} {g g1 : WG} {is is1 vs1 : List Nat} {we : WE} (hi : PI X tg iter (iG X.K F γ wi)) (ok : blkC X.N X.env.scope scope own = true)
    (hg : ∀ (F' : Hp) (s : Shared) (H : Hp) (C : Addr) (cl : List (Str × Addr)) (fp : List Addr), PG (X.blk s H scope (compEnvC scope cl C X.env) fp) tg (tgG X.K F' γ is g))
    (hi1 : ∀ (F' : Hp) (s : Shared) (H : Hp) (C : Addr) (cl : List (Str × Addr)) (fp : List Addr), PI (X.blk s H scope (compEnvC scope cl C X.env) fp) tg1 iter1 (iG X.K F' γ wi1))
    (hg1 : ∀ (F' : Hp) (s : Shared) (H : Hp) (C : Addr) (cl : List (Str × Addr)) (fp : List Addr), PG (X.blk s H scope (compEnvC scope cl C X.env) fp) tg1 (tgG X.K F' γ is1 g1))
    (he : ∀ (F' : Hp) (s : Shared) (H : Hp) (C : Addr) (cl : List (Str × Addr)) (fp : List Addr), PE (X.blk s H scope (compEnvC scope cl C X.env) fp) elt (tG X.K F' γ we)) (hN : X.N.Nodup) (hsw : swapsWith (.ListComp elt [⟨tg, iter, [], 0⟩, ⟨tg1, iter1, [], 0⟩] scope pos) (some (.Name y py)) spos.line X.env = pure true)
    (hsub : ∀ i ∈ vs1, i ∈ own.map (·.2)) (hy : X.N[i]? = some y) (hyl : X.env.scope.names.lookup y = some .local) (hc : X.calm = true)
    (hs : ∀ x, foldedSetIterable iter X.env x = pure x) (hs1 : ∀ env x, foldedSetIterable iter1 env x = pure x) :
    PS X (.Assign [.Name y py] (.ListComp elt [⟨tg, iter, [], 0⟩, ⟨tg1, iter1, [], 0⟩] scope pos) spos) (tAsg (tLc2 (iG X.K F γ wi) (exG X.K γ is g) (exT X.K γ tYesG) (exI X.K γ wi1) (exG X.K γ is1 g1) (exT X.K γ tYesG) (exE X.K γ we) (own.map (·.2)) vs1) (gName i)) :=
  ps_setLc2 hc hN hy hyl hsw hi (blkOk_by ok) hsub (fun s H C cl fp => ⟨fun pins s' σ H' v u Q I r ⟨F', h⟩ => (hg F' s H C cl fp).run pins s' σ H' v u Q I r h⟩) (fun s H C cl fp => ⟨fun pins s' σ H' Q I ⟨F', h⟩ => (dtYes (F := F')).run pins s' σ H' Q I h⟩)
    (fun s H C cl fp => ⟨fun pins s' σ H' R I ⟨F', h⟩ => (hi1 F' s H C cl fp).run pins s' σ H' R I h⟩) (fun s H C cl fp => ⟨fun pins s' σ H' v u Q I r ⟨F', h⟩ => (hg1 F' s H C cl fp).run pins s' σ H' v u Q I r h⟩) (fun s H C cl fp => ⟨fun pins s' σ H' Q I ⟨F', h⟩ => (dtYes (F := F')).run pins s' σ H' Q I h⟩)
    (fun s H C cl fp => ⟨fun pins s' σ H' Q I ⟨F', h⟩ => (he F' s H C cl fp).run pins s' σ H' Q I h⟩) hs hs1
theorem dsSetLc2L (i : Nat) {y : Str} {py spos : Pos} {elt tg iter tg1 iter1 : Expr} {scope : Scope} {own : List (Str × Nat)} {wi wi1 : WI} {g g1 : WG} {is is1 vs1 : List Nat} {we : WE} (hi : PI X tg iter (iG X.K F γ wi)) (ok : blkC X.N X.env.scope scope own = true)
    (hg : ∀ (F' : Hp) (s : Shared) (H : Hp) (C : Addr) (cl : List (Str × Addr)) (fp : List Addr), PG (X.blk s H scope (compEnvC scope cl C X.env) fp) tg (tgG X.K F' γ is g))
    (hi1 : ∀ (F' : Hp) (s : Shared) (H : Hp) (C : Addr) (cl : List (Str × Addr)) (fp : List Addr), PI (X.blk s H scope (compEnvC scope cl C X.env) fp) tg1 iter1 (iG X.K F' γ wi1))
    (hg1 : ∀ (F' : Hp) (s : Shared) (H : Hp) (C : Addr) (cl : List (Str × Addr)) (fp : List Addr), PG (X.blk s H scope (compEnvC scope cl C X.env) fp) tg1 (tgG X.K F' γ is1 g1))
    (he : ∀ (F' : Hp) (s : Shared) (H : Hp) (C : Addr) (cl : List (Str × Addr)) (fp : List Addr), PE (X.blk s H scope (compEnvC scope cl C X.env) fp) elt (tG X.K F' γ we)) (hN : X.N.Nodup) (hsw : swapsWith (.ListComp elt [⟨tg, iter, [], 0⟩, ⟨tg1, iter1, [], 0⟩] scope pos) (some (.Name y py)) spos.line X.env = pure true := by rfl)
    (his : ∀ i ∈ is, i ∈ own.map (·.2) := by decide) (his1 : ∀ i ∈ is1, i ∈ vs1 := by decide) (hsub : ∀ i ∈ vs1, i ∈ own.map (·.2) := by decide) (hy : X.N[i]? = some y := by rfl) (hyl : X.env.scope.names.lookup y = some .local := by rfl) (hc : X.calm = true := by rfl)
    (hs : ∀ x, foldedSetIterable iter X.env x = pure x := by intro _; rfl) (hs1 : ∀ env x, foldedSetIterable iter1 env x = pure x := by intro _ _; rfl) :
    PS X (.Assign [.Name y py] (.ListComp elt [⟨tg, iter, [], 0⟩, ⟨tg1, iter1, [], 0⟩] scope pos) spos) (tS X.K F γ (wSetL i (wComp2 wi g wi1 g1 we (own.map (·.2)) vs1))) :=
  PS.imp (setLc2Go i hi ok hg hi1 hg1 he hN hsw hsub hy hyl hc hs hs1) fun E σ H h => lc2_read his his1 hsub (setL_read h)
end
theorem comp2_pure {g g1 : WG} {wi1 : WI} {te : WE} {vs1 : List Nat} {env : List Sl} {ds : List D} {c : Nat} {P : List D → Nat → Prop} (f : D → List D) (hf : ∀ d ∈ ds, (f d).length ≤ 1000)
    (step : ∀ d ∈ ds, ∀ (K : List D → Nat → Prop), K (f d) c → g d env fun env1 => wi1 env1 c fun es c1 => noOwn env1 vs1 = true ∧ es.length ≤ 1000 ∧ compN g1 tYesG te (wipeE env1 vs1) es c1 K)
    (h : P (ds.flatMap f) c) : comp2N g wi1 g1 te vs1 env ds c P := by
  induction ds generalizing P with
  | nil => exact h
  | cons d ds ih =>
    refine step d List.mem_cons_self _ ⟨hf d List.mem_cons_self, ?_⟩
    refine ih (fun d' hd => hf d' (List.mem_cons_of_mem _ hd)) (fun d' hd => step d' (List.mem_cons_of_mem _ hd)) ?_
    rw [List.flatMap_cons] at h
    exact h
end L2.DL

set_option Elab.async false
set_option linter.all false
set_option autoImplicit false
set_option maxRecDepth 100000
/-! Ascending lists of rows of signs; all rows, all words, all states. -/
namespace L2.DL
open PySem PySem.Spec PyProof.Rows
def asc (ls : List (List Bool)) : Prop := ls.Pairwise fun a b => ltB a b = true
def un (z : Str) : List Bool := z.cps.toList.map (· == 49)
theorem un_S (l : List Bool) : un (S l) = l := by
  unfold un
  rw [S_tl, List.map_map]
  have e : ((· == 49) ∘ bit) = id := by
    funext b
    cases b <;> rfl
  rw [e, List.map_id]
theorem ltCps_bit : ∀ (a b : List Bool), ltCps (a.map bit) (b.map bit) = ltB a b
  | [], [] => rfl
  | [], _ :: _ => rfl
  | _ :: _, [] => rfl
  | x :: a, y :: b => by
    have := ltCps_bit a b
    cases x <;> cases y <;> simp_all [ltCps, ltB, bit]
theorem ge_trans {a b c : List Bool} (h : ltB b a = false) (k : ltB c b = false) : ltB c a = false := by
  cases q : ltB c a with
  | false => rfl
  | true =>
    by_cases q2 : ltB a b = true
    · rw [ltB_trans c a b q q2] at k; cases k
    · have := ltB_anti a b (by simpa using q2) h
      subst this
      rw [q] at k; cases k
theorem rising_pw : ∀ (ls : List (List Bool)) (p : List Bool), risingS (S p) (ls.map S) = true → (p :: ls).Pairwise fun a b => ltB b a = false
  | [], p, _ => List.pairwise_singleton _ _
  | x :: ls, p, h => by
    have h' : (!ltCps (S x).cps.toList (S p).cps.toList && risingS (S x) (ls.map S)) = true := h
    rw [Bool.and_eq_true, S_tl, S_tl, ltCps_bit] at h'
    have h1 : ltB x p = false := by simpa using h'.1
    have h2 := rising_pw ls x h'.2
    refine List.pairwise_cons.mpr ⟨fun b hb => ?_, h2⟩
    rcases List.mem_cons.mp hb with rfl | hb
    · exact h1
    · exact ge_trans h1 ((List.pairwise_cons.mp h2).1 b hb)
theorem perm_asc : ∀ (A ls : List (List Bool)), ls.Perm A → ls.Pairwise (fun a b => ltB b a = false) → asc A → ls = A
  | [], ls, hp, _, _ => List.perm_nil.mp hp
  | a :: A, [], hp, _, _ => by
    have := hp.length_eq
    simp at this
  | a :: A, l :: ls, hp, hs, hA => by
    have e : l = a := by
      by_cases e : l = a
      · exact e
      · have h1 : l ∈ A := by
          rcases List.mem_cons.mp (hp.mem_iff.mp List.mem_cons_self) with q | q
          · exact absurd q e
          · exact q
        have h2 : a ∈ ls := by
          rcases List.mem_cons.mp (hp.mem_iff.mpr List.mem_cons_self) with q | q
          · exact absurd q.symm e
          · exact q
        have h3 := (List.pairwise_cons.mp hA).1 l h1
        have h4 := (List.pairwise_cons.mp hs).1 a h2
        rw [h3] at h4
        cases h4
    subst e
    rw [perm_asc A ls (List.Perm.cons_inv hp) (List.pairwise_cons.mp hs).2 (List.pairwise_cons.mp hA).2]
theorem sorted_asc {A : List (List Bool)} {ys : List Str} (hp : ys.Perm (A.map S)) (hs : sortedS ys = true) (hA : asc A) : ys = A.map S := by
  have e : (ys.map un).map S = ys := by
    rw [List.map_map]
    have : ∀ y ∈ ys, (S ∘ un) y = y := fun y hy => by
      obtain ⟨l, _, rfl⟩ := List.mem_map.mp (hp.mem_iff.mp hy)
      show S (un (S l)) = S l
      rw [un_S]
    conv => rhs; rw [← List.map_id ys]
    exact List.map_congr_left this
  have hq : (ys.map un).Perm A := by
    have := hp.map un
    rw [List.map_map] at this
    have e2 : (un ∘ S) = id := by funext l; exact un_S l
    rw [e2, List.map_id] at this
    exact this
  rw [← e] at hs
  rw [← e]
  congr 1
  refine perm_asc A _ hq ?_ hA
  generalize ys.map un = ls at hs
  cases ls with
  | nil => exact List.Pairwise.nil
  | cons p ls => exact rising_pw ls p hs
theorem sortD_S {ls A : List (List Bool)} {P : D → Prop} (hp : ls.Perm A) (hA : asc A) (k : P (.lst (A.map fun l => .str (S l)))) : sortD (.lst (ls.map fun l => .str (S l))) P := by
  refine .inl ⟨_, strs_S ls, fun ys hy hs => ?_⟩
  rw [sorted_asc (hy.trans (hp.map S)) hs hA, List.map_map]
  exact k
theorem asc_nodup {ls : List (List Bool)} (h : asc ls) : ls.Nodup := h.imp fun {a b} q e => by
  subst e
  rw [ltB_irr] at q
  cases q
theorem ltB_ext : ∀ (a b x y : List Bool), a.length = b.length → ltB a b = true → ltB (a ++ x) (b ++ y) = true
  | [], [], x, y, _, h => by cases h
  | [], _ :: _, _, _, h, _ => by cases h
  | _ :: _, [], _, _, h, _ => by cases h
  | c :: a, d :: b, x, y, hl, h => by
    have := ltB_ext a b x y (by simpa using hl)
    cases c <;> cases d <;> simp_all [ltB]
theorem ltB_01 : ∀ (r x y : List Bool), ltB (r ++ false :: x) (r ++ true :: y) = true
  | [], _, _ => by simp [ltB]
  | c :: r, x, y => by
    have := ltB_01 r x y
    cases c <;> simp_all [ltB]
/-! ### all rows -/
def rows : Nat → List (List Bool)
  | 0 => [[]]
  | k + 1 => (rows k).flatMap fun r => [r ++ [false], r ++ [true]]
theorem rows_mem : ∀ (k : Nat) (l : List Bool), l ∈ rows k ↔ l.length = k
  | 0, l => by
    show l ∈ [[]] ↔ _
    rw [List.mem_singleton, List.length_eq_zero_iff]
  | k + 1, l => by
    show l ∈ (rows k).flatMap _ ↔ _
    rw [List.mem_flatMap]
    constructor
    · rintro ⟨r, hr, hl⟩
      have := (rows_mem k r).mp hr
      simp only [List.mem_cons, List.not_mem_nil, or_false] at hl
      rcases hl with rfl | rfl <;> simp [this]
    · intro hl
      obtain ⟨r, b, rfl⟩ : ∃ r b, l = r ++ [b] := by
        refine ⟨l.dropLast, l.getLast (by intro e; rw [e] at hl; cases hl), (List.dropLast_concat_getLast _).symm⟩
      refine ⟨r, (rows_mem k r).mpr (by simpa using hl), ?_⟩
      cases b <;> simp
theorem rows_asc : ∀ k, asc (rows k)
  | 0 => List.pairwise_singleton _ _
  | k + 1 => by
    refine List.pairwise_flatMap.mpr ⟨fun r _ => ?_, ?_⟩
    · exact List.pairwise_cons.mpr ⟨fun b hb => by
        rw [List.mem_singleton.mp hb]
        exact ltB_01 r [] [], List.pairwise_singleton _ _⟩
    · refine (rows_asc k).imp_of_mem fun {a b} ha hb h x hx y hy => ?_
      have la := (rows_mem k a).mp ha
      have lb := (rows_mem k b).mp hb
      simp only [List.mem_cons, List.not_mem_nil, or_false] at hx hy
      rcases hx with rfl | rfl <;> rcases hy with rfl | rfl <;> exact ltB_ext a b _ _ (la.trans lb.symm) h
def allS (n : Nat) : List (List Bool) := (rows n).filter stok
theorem allS_asc (n : Nat) : asc (allS n) := (rows_asc n).filter _
theorem allS_mem {n : Nat} {l : List Bool} : l ∈ allS n ↔ l.length = n ∧ stok l = true := by
  unfold allS
  rw [List.mem_filter, rows_mem]
/-! ### all words, as laws list them -/
def preW (p : Nat) (l : List Bool) : List (List Bool) := match ht 0 l with
  | none => []
  | some d => (if 0 < d then [l ++ [false]] else []) ++ (if l.count true < p then [l ++ [true]] else [])
def frontW (p : Nat) : Nat → List (List Bool)
  | 0 => [[]]
  | k + 1 => (frontW p k).flatMap (preW p)
theorem ht_snoc1 {l : List Bool} : ht 0 (l ++ [true]) = (ht 0 l).map (· + 1) := by
  rw [ht_app]
  cases ht 0 l <;> rfl
theorem ht_snoc0 {l : List Bool} : ht 0 (l ++ [false]) = (ht 0 l).bind fun d => if 0 < d then some (d - 1) else none := by
  rw [ht_app]
  cases q : ht 0 l with
  | none => rfl
  | some d => cases d <;> rfl
theorem frontW_mem (p : Nat) : ∀ (k : Nat) (l : List Bool), l ∈ frontW p k ↔ l.length = k ∧ (ht 0 l).isSome = true ∧ l.count true ≤ p
  | 0, l => by
    show l ∈ [[]] ↔ _
    rw [List.mem_singleton]
    constructor
    · rintro rfl
      exact ⟨rfl, rfl, Nat.zero_le _⟩
    · rintro ⟨h, _⟩
      exact List.length_eq_zero_iff.mp h
  | k + 1, l => by
    show l ∈ (frontW p k).flatMap _ ↔ _
    rw [List.mem_flatMap]
    constructor
    · rintro ⟨r, hr, hl⟩
      obtain ⟨h1, h2, h3⟩ := (frontW_mem p k r).mp hr
      obtain ⟨d, hd⟩ := Option.isSome_iff_exists.mp h2
      unfold preW at hl
      rw [hd] at hl
      simp only [List.mem_append] at hl
      rcases hl with hl | hl
      · split at hl
        · rename_i q
          rw [List.mem_singleton.mp hl]
          refine ⟨by simp [h1], by rw [ht_snoc0, hd]; simp [q], by rw [List.count_append]; simpa using h3⟩
        · cases hl
      · split at hl
        · rename_i q
          rw [List.mem_singleton.mp hl]
          refine ⟨by simp [h1], by rw [ht_snoc1, hd]; rfl, by rw [List.count_append]; have e1 : ([true] : List Bool).count true = 1 := rfl; omega⟩
        · cases hl
    · rintro ⟨h1, h2, h3⟩
      obtain ⟨r, b, rfl⟩ : ∃ r b, l = r ++ [b] := by
        refine ⟨l.dropLast, l.getLast (by intro e; rw [e] at h1; cases h1), (List.dropLast_concat_getLast _).symm⟩
      cases b with
      | false =>
        rw [ht_snoc0] at h2
        cases hd : ht 0 r with
        | none => rw [hd] at h2; cases h2
        | some d =>
          rw [hd] at h2
          have q : 0 < d := by
            by_cases q : 0 < d
            · exact q
            · simp [q] at h2
          refine ⟨r, (frontW_mem p k r).mpr ⟨by simpa using h1, by rw [hd]; rfl, by rw [List.count_append] at h3; simpa using h3⟩, ?_⟩
          unfold preW
          rw [hd]
          simp [q]
      | true =>
        rw [ht_snoc1] at h2
        cases hd : ht 0 r with
        | none => rw [hd] at h2; cases h2
        | some d =>
          have q : r.count true < p := by rw [List.count_append] at h3; have e1 : ([true] : List Bool).count true = 1 := rfl; omega
          refine ⟨r, (frontW_mem p k r).mpr ⟨by simpa using h1, by rw [hd]; rfl, by omega⟩, ?_⟩
          unfold preW
          rw [hd]
          simp [q]
theorem frontW_asc (p : Nat) : ∀ k, asc (frontW p k)
  | 0 => List.pairwise_singleton _ _
  | k + 1 => by
    have hx : ∀ (r x : List Bool), x ∈ preW p r → ∃ b, x = r ++ [b] := fun r x h => by
      unfold preW at h
      split at h
      · cases h
      · rcases List.mem_append.mp h with h | h <;> split at h <;> first | exact ⟨_, List.mem_singleton.mp h⟩ | cases h
    refine List.pairwise_flatMap.mpr ⟨fun r _ => ?_, ?_⟩
    · unfold preW
      split
      · exact List.Pairwise.nil
      · split <;> split <;> first | exact List.pairwise_cons.mpr ⟨fun b hb => by rw [List.mem_singleton.mp hb]; exact ltB_01 r [] [], List.pairwise_singleton _ _⟩ | exact List.pairwise_singleton _ _ | exact List.Pairwise.nil
    · refine (frontW_asc p k).imp_of_mem fun {a b} ha hb h x hx' y hy' => ?_
      have la := ((frontW_mem p k a).mp ha).1
      have lb := ((frontW_mem p k b).mp hb).1
      obtain ⟨c, rfl⟩ := hx a x hx'
      obtain ⟨e, rfl⟩ := hx b y hy'
      exact ltB_ext a b _ _ (la.trans lb.symm) h
def allW (p : Nat) : List (List Bool) := frontW p (2 * p)
theorem allW_asc (p : Nat) : asc (allW p) := frontW_asc p _
theorem allW_mem {p : Nat} {l : List Bool} : l ∈ allW p ↔ dy 0 l = true ∧ l.length = 2 * p := by
  unfold allW
  rw [frontW_mem]
  have hc := count_two l
  constructor
  · rintro ⟨h1, h2, h3⟩
    obtain ⟨d, hd⟩ := Option.isSome_iff_exists.mp h2
    have := ht_cnt l 0 d hd
    have hd0 : d = 0 := by omega
    subst hd0
    exact ⟨(dy_ht l 0).mpr hd, h1⟩
  · rintro ⟨h1, h2⟩
    have hd := (dy_ht l 0).mp h1
    have := ht_cnt l 0 0 hd
    exact ⟨h2, by rw [hd]; rfl, by omega⟩
end L2.DL

set_option Elab.async false
set_option linter.all false
set_option autoImplicit false
set_option maxRecDepth 100000
/-! Dicts that a slot owns. -/
namespace L2.DL
open PySem PySem.Spec PyProof.Rows
def vD (kvs : List (Key × D)) (k : Key) : Option D := (kvs.find? fun kv => decide (kv.1 = k)).map (·.2)
def pD (kvs : List (Key × D)) (k : Key) (d : D) : List (Key × D) :=
  if (kvs.any fun kv => decide (kv.1 = k)) = true then kvs.map (fun kv => if kv.1 = k then (kv.1, d) else kv) else kvs ++ [(k, d)]
section
variable {K : PySem.W.Frag} {F : Hp} {γ : Gm} {H0 H : Hp} {σ : St} {env : List Sl} {c : Nat}
theorem kv_get : ∀ (us : List (Key × V)) (ws : List (Key × D)) (k : Key), us.map (·.1) = ws.map (·.1) → HasL K H (us.map (·.2)) (ws.map (·.2)) → (valV us k).isSome = (vD ws k).isSome ∧ ∀ d, vD ws k = some d → ∃ v, valV us k = some v ∧ Has K H v d
  | [], [], k, _, _ => ⟨rfl, fun d h => by cases h⟩
  | [], _ :: _, k, e, _ => by cases e
  | _ :: _, [], k, e, _ => by cases e
  | (i, v) :: us, (j, d) :: ws, k, e, h => by
    rw [List.map_cons, List.map_cons] at e
    obtain ⟨e1, e2⟩ := List.cons.inj e
    have e1 : i = j := e1
    subst e1
    cases h with
    | cons h1 h2 =>
      by_cases q : i = k
      · have a1 : valV ((i, v) :: us) k = some v := valV_pos q
        have a2 : vD ((i, d) :: ws) k = some d := by simp [vD, List.find?_cons, q]
        rw [a1, a2]
        exact ⟨rfl, fun d' h => by cases h; exact ⟨v, rfl, h1⟩⟩
      · have a1 : valV ((i, v) :: us) k = valV us k := valV_neg q
        have a2 : vD ((i, d) :: ws) k = vD ws k := by simp [vD, List.find?_cons, q]
        rw [a1, a2]
        exact kv_get us ws k e2 h2
theorem any_key {α β : Type} : ∀ (us : List (Key × α)) (ws : List (Key × β)) (k : Key), us.map (·.1) = ws.map (·.1) → (us.any fun kv => decide (kv.1 = k)) = (ws.any fun kv => decide (kv.1 = k))
  | [], [], k, _ => rfl
  | [], _ :: _, k, e => by cases e
  | _ :: _, [], k, e => by cases e
  | u :: us, w :: ws, k, e => by
    rw [List.map_cons, List.map_cons] at e
    obtain ⟨e1, e2⟩ := List.cons.inj e
    rw [List.any_cons, List.any_cons, any_key us ws k e2, e1]
theorem map_key {α : Type} (us : List (Key × α)) (k : Key) (x : α) : (us.map fun kv => if kv.1 = k then (kv.1, x) else kv).map (·.1) = us.map (·.1) := by
  rw [List.map_map]
  refine List.map_congr_left fun kv _ => ?_
  show (if kv.1 = k then (kv.1, x) else kv).1 = kv.1
  split <;> rfl
theorem map_val : ∀ (us : List (Key × V)) (ws : List (Key × D)) (k : Key) {v : V} {d : D}, Has K H v d → us.map (·.1) = ws.map (·.1) → HasL K H (us.map (·.2)) (ws.map (·.2)) →
    HasL K H ((us.map fun kv => if kv.1 = k then (kv.1, v) else kv).map (·.2)) ((ws.map fun kv => if kv.1 = k then (kv.1, d) else kv).map (·.2))
  | [], [], _, _, _, _, _, _ => .nil
  | [], _ :: _, _, _, _, _, e, _ => by cases e
  | _ :: _, [], _, _, _, _, e, _ => by cases e
  | (i, x) :: us, (j, y) :: ws, k, v, d, hv, e, h => by
    rw [List.map_cons, List.map_cons] at e
    obtain ⟨e1, e2⟩ := List.cons.inj e
    have e1 : i = j := e1
    subst e1
    cases h with
    | cons h1 h2 =>
      have ih := map_val us ws k hv e2 h2
      simp only [List.map_cons]
      by_cases q : i = k
      · rw [if_pos q, if_pos q]
        exact .cons hv ih
      · rw [if_neg q, if_neg q]
        exact .cons h1 ih
theorem okd_put {us : List (Key × V)} {ws : List (Key × D)} {k : Key} {v : V} {d : D} (e : us.map (·.1) = ws.map (·.1)) (h : HasL K H (us.map (·.2)) (ws.map (·.2))) (hv : Has K H v d) (hz : us.length < sizeLine) : OkO K H (.dK (putK us k v)) (.d (pD ws k d)) := by
  refine ⟨_, rfl, Nat.le_trans (length_putK us k v) hz, ?_, ?_⟩
  · unfold putK pD
    rw [any_key us ws k e]
    split
    · rw [map_key, map_key, e]
    · rw [List.map_append, List.map_append, e]
      rfl
  · unfold putK pD
    rw [any_key us ws k e]
    split
    · exact map_val us ws k hv e h
    · rw [List.map_append, List.map_append]
      exact h.append (.cons hv .nil)
theorem Rep.own_atT (R : Rep K F γ H0 H σ env c) {i : Nat} {t : OT} (e : env[i]? = some (.ow t)) : ∃ a ho, σ[i]? = some (some (.ref a)) ∧ H a = some ho ∧ OkO K H0 ho t := by
  have hl := R.len
  obtain ⟨hi, _⟩ := List.getElem?_eq_some_iff.mp e
  have h2 : σ[i]? = some σ[i] := List.getElem?_eq_getElem (by omega)
  obtain ⟨a, ho, e2, _, _, _, ha, hk⟩ := R.at_ i _ _ h2 e
  exact ⟨a, ho, by rw [h2, e2], ha, hk⟩
/-- the own object of slot i changes -/
theorem Rep.writeT (R : Rep K F γ H0 H σ env c) {i : Nat} {a : Addr} {t t' : OT} {ho : HO} (hs : σ[i]? = some (some (.ref a))) (he : env[i]? = some (.ow t)) (hk : OkO K H0 ho t') :
    Rep K F γ H0 (upd H a ho) σ (env.set i (.ow t')) c := by
  obtain ⟨a', vs, e, g, fa, h0, ha, hk0⟩ := R.at_ i _ _ hs he
  cases e
  refine ⟨⟨fun b o e => ?_, fun b o e => ?_, fun g' e => ?_, R.core.grd, Tabs.upd R.core.tbs fun u eu => by rw [ha] at eu; cases eu; exact hk0.noTab, R.core.tb0⟩, by rw [List.length_set]; exact R.len, fun j x sl h1 h2 => ?_, fun j k b ds' es' n h1 h2 h3 h4 => ?_⟩
  · rw [upd_ne (ne_of_none e h0)]; exact R.core.sub _ _ e
  · rw [upd_ne (ne_of_none e fa)]; exact R.core.frm _ _ e
  · obtain ⟨x, y, G⟩ := R.core.gau g' e
    have n : g' ≠ a := fun q => g (by rw [← q]; exact e)
    exact ⟨x, y, G.mono (Same.refl _) (upd_ne n) (Nat.le_refl _)⟩
  · rcases set_get h2 with ⟨e1, e2⟩ | ⟨e1, e2⟩
    · subst e1 e2
      rw [hs] at h1; cases h1
      exact ⟨a, _, rfl, g, fa, h0, upd_same, hk⟩
    · have q := R.at_ j x sl h1 e2
      cases sl with
      | no => trivial
      | val d => exact q
      | ow fs =>
        obtain ⟨b, ws, e, g2, f2, z2, h2', l2⟩ := q
        subst e
        have nb : b ≠ a := fun q => R.dis i j a _ fs e1 hs he (by rw [← q]; exact h1) e2
        exact ⟨b, ws, rfl, g2, f2, z2, by rw [upd_ne nb]; exact h2', l2⟩
      | gau => exact q
      | lam => exact q
      | scr => first | exact q | exact ScrOk.mono q (by assumption) | exact ScrOk.mono q (Same.new (by assumption)) | exact ScrOk.mono q (Same.new O.z)
      | gx cs i' r =>
        obtain ⟨b, ca, e, eg, hg, q⟩ := q
        have nb : b ≠ a := fun z => g (by rw [← z]; exact eg)
        exact ⟨b, ca, e, eg, by rw [upd_ne nb]; exact hg, q⟩
  · rcases set_get h2 with ⟨e1, e2⟩ | ⟨e1, e2⟩
    · rcases set_get h4 with ⟨e3, e4⟩ | ⟨e3, e4⟩
      · exact n (e1.symm.trans e3)
      · subst e1
        exact R.dis i k b _ es' n h1 he h3 e4
    · rcases set_get h4 with ⟨e3, e4⟩ | ⟨e3, e4⟩
      · subst e3
        exact R.dis j i b ds' _ n h1 e2 h3 he
      · exact R.dis j k b ds' es' n h1 e2 h3 e4
/-- the dict of slot i is changed no more -/
theorem Rep.freezeD (R : Rep K F γ H0 H σ env c) {i : Nat} {kvs : List (Key × D)} (he : env[i]? = some (.ow (.d kvs))) : ∃ H0', Same H0 H0' ∧ Rep K F γ H0' H σ (env.set i (.val (.dic (kvs.map (·.1)) (kvs.map (·.2))))) c := by
  have hl := R.len
  obtain ⟨hi, _⟩ := List.getElem?_eq_some_iff.mp he
  have h2 : σ[i]? = some σ[i] := List.getElem?_eq_getElem (by omega)
  obtain ⟨a, _, e, g, fa, h0, ha, us, rfl, hz, ek, hv⟩ := R.at_ i _ _ h2 he
  have hs : σ[i]? = some (some (.ref a)) := by rw [h2, e]
  refine ⟨upd H0 a (.dK us), Same.new h0, ⟨fun b o q => ?_, fun b o q => ?_, fun g' q => ?_, R.core.grd.trans (Same.new h0), R.core.tbs, tb0_upd R.core.tb0 (Tabs.ne R.core.tbs ha noTab_dK)⟩, by rw [List.length_set]; exact R.len, fun j x sl h1 h3 => ?_, fun j k b ds' es' n h1 h2 h3 h4 => ?_⟩
  · by_cases hb : b = a
    · subst hb; rw [upd_same] at q; cases q; exact ha
    · rw [upd_ne hb] at q; exact R.core.sub _ _ q
  · obtain ⟨x, y⟩ := R.core.frm _ _ q
    exact ⟨x, by rw [upd_ne (ne_of_none q fa)]; exact y⟩
  · obtain ⟨x, y, G⟩ := R.core.gau g' q
    have n : g' ≠ a := fun r => g (by rw [← r]; exact q)
    exact ⟨x, by rw [upd_ne n]; exact y, G.mono (Same.new h0) rfl (Nat.le_refl _)⟩
  · rcases set_get h3 with ⟨e1, e2⟩ | ⟨e1, e2⟩
    · subst e1 e2
      rw [hs] at h1; cases h1
      exact ⟨_, rfl, .dic upd_same ek (hv.mono (Same.new h0))⟩
    · have q := R.at_ j x sl h1 e2
      cases sl with
      | no => trivial
      | val d => obtain ⟨v, e, q⟩ := q; exact ⟨v, e, q.mono (Same.new h0)⟩
      | ow fs =>
        obtain ⟨b, ws, e, g2, f2, z2, h2', l2⟩ := q
        subst e
        have nb : b ≠ a := fun q => R.dis i j a _ fs e1 hs he (by rw [← q]; exact h1) e2
        exact ⟨b, ws, rfl, g2, f2, by rw [upd_ne nb]; exact z2, h2', l2.mono (Same.new h0)⟩
      | gau => exact q
      | lam => exact q
      | scr => first | exact q | exact ScrOk.mono q (by assumption) | exact ScrOk.mono q (Same.new (by assumption)) | exact ScrOk.mono q (Same.new O.z)
      | gx cs i' r =>
        obtain ⟨b, ca, e, eg, hg, q⟩ := q
        exact ⟨b, ca, e, eg, hg, q.mono (Same.new h0)⟩
  · rcases set_get h2 with ⟨e1, e2⟩ | ⟨e1, e2⟩
    · cases e2
    · rcases set_get h4 with ⟨e3, e4⟩ | ⟨e3, e4⟩
      · cases e4
      · exact R.dis j k b ds' es' n h1 e2 h3 e4
end
section
variable {X : Cx} {F : Hp} {γ : Gm} {pos : Pos}
/-- x = {} -/
def wNewD (i : Nat) : WS := fun E env c => E.nx (env.set i (.ow (.d []))) c
theorem dsNewD (i : Nat) {x : Str} {pos' p : Pos} (hN : X.N.Nodup) (hi : X.N[i]? = some x := by rfl) (hx : Loc X.env.scope x := by first | exact Or.inl rfl | exact Or.inr rfl) (hs : swapsWith (.Dict [] [] p) (some (.Name x pos')) pos.line X.env = pure false := by rfl)
    (hf : X.fn x = true ∨ X.env.scope.names.lookup x = some .local := by first | exact .inl rfl | exact .inr rfl | assumption) : PS X (.Assign [.Name x pos'] (.Dict [] [] p) pos) (tS X.K F γ (wNewD i)) := PS.imp (ps_set hN hi hx pe_dnewK hs hf) fun E σ H h => by
  obtain ⟨H0, env, c, D, R, q, k1, k2, k3, k4⟩ := h
  intro p hp
  exact k1 _ _ _ _ _ q (Same.refl _) (Rep.setOwn (R.allocOwn hp) (R.ownNewD hp) i)
/-- {} in a tuple of values -/
def wConsD (r : WAO) : WAO := fun env c P => r env c fun as c2 => P (.o (.d []) :: as) c2
theorem dxD {es : List Expr} {wr : WAO} {p : Pos} (hr : ∀ F', PA X es (tAO X.K F' γ wr)) (hs : starEach (.Dict [] [] p :: es) X.env = (false, eval (.Dict [] [] p) X.env) :: starEach es X.env := by rfl) : PA X (.Dict [] [] p :: es) (tAO X.K F γ (wConsD wr)) := by
  have hr' : PA X es (fun σ H Q => ∃ F', tAO X.K F' γ wr σ H Q) := ⟨fun pos pins s σ H Q I ⟨F', h⟩ => (hr F').run pos pins s σ H Q I h⟩
  refine PA.imp (pa_cons pe_dnewK hr' hs) fun σ H Q h => ?_
  obtain ⟨H0, env, c, P, R, q, k⟩ := h
  intro a hp
  have R1 := R.allocOwn (o := .dK []) hp
  have O := R.ownNewD hp
  refine ⟨upd F a (.dK []), H0, env, c, _, R1.intoFrame O.g O.z upd_same noTab_dK O.apart, q, fun as c2 us H2 H02 q2 s2 R2 A2 => ?_⟩
  obtain ⟨h7, z7⟩ := R2.core.frm a _ upd_same
  exact k _ _ _ _ _ q2 s2 (R2.outFrame O.f) (.o ⟨O.g, O.f, z7, ⟨_, h7, [], rfl, Nat.zero_le _, rfl, .nil⟩, O.apart⟩ A2.notIn (A2.outFrame O.f))
/-- x[k] = v -/
def wPutO (i : Nat) (wk wv : WE) : WS := fun E env c => wv env c fun d c1 => ∃ kvs, env[i]? = some (.ow (.d kvs)) ∧ wk env c1 fun e c2 => ∃ k, e.key = some k ∧ kvs.length < sizeLine ∧ E.nx (env.set i (.ow (.d (pD kvs k d)))) c2
theorem dsPutO (i : Nat) {ex ek ev : Expr} {wk wv : WE} {p' : Pos} (hu : X.A.units + 64 < cLine) (hx : PE X ex (tVar i)) (hk : PE X ek (tG X.K F γ wk)) (hv : PE X ev (tG X.K F γ wv)) (hs : swapsWith ev (some (.Subscript ex ek p')) pos.line X.env = pure false := by rfl) :
    PS X (.Assign [.Subscript ex ek p'] ev pos) (tS X.K F γ (wPutO i wk wv)) := PS.imp (ps_dput (by omega) hx hk hv hs) fun E σ H h => by
  obtain ⟨H0, env, c, D, R, q, k1, k2, k3, k4⟩ := h
  refine ⟨H0, env, c, _, R, q, fun d c1 v H1 H01 ⟨kvs, el, q1⟩ s1 R1 h1 => ?_⟩
  obtain ⟨a, ho, a0, a1, _⟩ := R1.own_atT el
  refine ⟨.ref a, a0, H01, env, c1, _, R1, q1, fun e c2 u H2 H02 ⟨k, ek, hz, q2⟩ s2 R2 h2 => ?_⟩
  obtain ⟨a', _, a0', a2, us, rfl, hz2, e2, hl2⟩ := R2.own_atT el
  rw [a0] at a0'
  cases a0'
  have hlen : us.length = kvs.length := by
    have := congrArg List.length e2
    rwa [List.length_map, List.length_map] at this
  refine ⟨a, _, rfl, by rw [key_of h2 ek]; exact DPut.k a2 (by rw [hlen]; exact hz), k1 _ _ _ _ _ q2 (s1.trans s2) (R2.writeT a0 el (okd_put e2 hl2 (h1.mono s2) (by rw [hlen]; exact hz)))⟩
/-- k in x, k not in x; x of slot i -/
def wInOD (neg : Bool) (i : Nat) (wk : WE) : WT := fun env c P => wk env c fun e c1 => ∃ kvs k, env[i]? = some (.ow (.d kvs)) ∧ e.key = some k ∧ P (if neg then !(vD kvs k).isSome else (vD kvs k).isSome) c1
theorem dtInOD (i : Nat) {ex ek : Expr} {wk : WE} (hu : X.A.units + 64 < cLine) (hk : PE X ek (tG X.K F γ wk)) (hx : PE X ex (tVar i)) (hm : behindInMarks .In ex = false) : PT X (.Compare ek [.In] [ex] pos) (tT X.K F γ (wInOD false i wk)) := PT.imp (pt_cmp (pc_din (by omega) hk hx) hm) fun σ H Q h => by
  obtain ⟨H0, env, c, P, R, q, k⟩ := h
  refine ⟨H0, env, c, _, R, q, fun e c1 u H1 H01 ⟨kvs, ky, el, ek, q1⟩ s1 R1 h1 => ?_⟩
  obtain ⟨a, _, a0, a1, us, rfl, hz, e2, hl⟩ := R1.own_atT el
  have g := (kv_get us kvs ky e2 hl).1
  refine ⟨.ref a, a0, a, _, rfl, by rw [key_of h1 ek]; exact DGet.k a1, ?_⟩
  rw [g]
  exact ⟨_, rfl, k _ _ _ _ q1 s1 R1⟩
theorem dtNotinOD (i : Nat) {ex ek : Expr} {wk : WE} (hu : X.A.units + 64 < cLine) (hk : PE X ek (tG X.K F γ wk)) (hx : PE X ex (tVar i)) (hm : behindInMarks .NotIn ex = false) : PT X (.Compare ek [.NotIn] [ex] pos) (tT X.K F γ (wInOD true i wk)) := PT.imp (pt_cmp (pc_dnotin (by omega) hk hx) hm) fun σ H Q h => by
  obtain ⟨H0, env, c, P, R, q, k⟩ := h
  refine ⟨H0, env, c, _, R, q, fun e c1 u H1 H01 ⟨kvs, ky, el, ek, q1⟩ s1 R1 h1 => ?_⟩
  obtain ⟨a, _, a0, a1, us, rfl, hz, e2, hl⟩ := R1.own_atT el
  have g := (kv_get us kvs ky e2 hl).1
  refine ⟨.ref a, a0, a, _, rfl, by rw [key_of h1 ek]; exact DGet.k a1, ?_⟩
  rw [g]
  exact ⟨_, rfl, k _ _ _ _ q1 s1 R1⟩
/-- x[k] of slot i's dict -/
def wGetOD (i : Nat) (wk : WE) : WE := fun env c P => ∃ kvs, env[i]? = some (.ow (.d kvs)) ∧ wk env c fun e c1 => ∃ k d, e.key = some k ∧ vD kvs k = some d ∧ P d c1
theorem dGetOD (i : Nat) {ex ek : Expr} {wk : WE} (hu : X.A.units + 64 < cLine) (hx : PE X ex (tVar i)) (hk : PE X ek (tG X.K F γ wk)) (hs : NoSl ek := by exact fun _ _ => rfl) : PE X (.Subscript ex ek pos) (tG X.K F γ (wGetOD i wk)) := PE.imp (pe_dget (by omega) hx hk hs) fun σ H Q h => by
  obtain ⟨H0, env, c, P, R, ⟨kvs, el, q⟩, k⟩ := h
  obtain ⟨a, _, a0, _⟩ := R.own_atT el
  refine ⟨.ref a, a0, H0, env, c, _, R, q, fun e c1 u H1 H01 ⟨ky, d, ek, ed, q1⟩ s1 R1 h1 => ?_⟩
  obtain ⟨a', _, a0', a1, us, rfl, hz, e2, hl⟩ := R1.own_atT el
  rw [a0] at a0'
  cases a0'
  obtain ⟨v, ev, hv⟩ := (kv_get us kvs ky e2 hl).2 d ed
  refine ⟨a, v, rfl, ?_, k _ _ _ _ _ q1 s1 R1 hv⟩
  rw [key_of h1 ek, ← ev]
  exact DGet.k a1
/-- the dict of slot i changes no more -/
def wFrzD (i : Nat) (w : WS) : WS := fun E env c => ∃ kvs, env[i]? = some (.ow (.d kvs)) ∧ w E (env.set i (.val (.dic (kvs.map (·.1)) (kvs.map (·.2))))) c
theorem dssFrzD (i : Nat) {rest : List Stmt} {w : WS} (h : PSs X rest (tS X.K F γ w)) : PSs X rest (tS X.K F γ (wFrzD i w)) := PSs.imp h fun E σ H h => by
  obtain ⟨H0, env, c, D, R, ⟨ds, he, q⟩, k1, k2, k3, k4⟩ := h
  obtain ⟨H0', s1, R1⟩ := R.freezeD he
  exact ⟨H0', _, c, D, R1, q, fun _ _ _ _ _ q2 s2 R2 => k1 _ _ _ _ _ q2 (s1.trans s2) R2, fun _ _ _ _ _ q2 s2 R2 => k2 _ _ _ _ _ q2 (s1.trans s2) R2, fun _ _ _ _ _ q2 s2 R2 => k3 _ _ _ _ _ q2 (s1.trans s2) R2, fun _ _ _ _ _ q2 s2 R2 => k4 _ _ _ _ _ q2 (s1.trans s2) R2⟩
end
section
variable {E : WEnds} {env : List Sl} {c : Nat} {wk wv : WE} {i : Nat} {a : WS}
theorem e_NewD : wNewD i E env c = E.nx (env.set i (.ow (.d []))) c := rfl
theorem e_PutO : wPutO i wk wv E env c = wv env c fun d c1 => ∃ kvs, env[i]? = some (.ow (.d kvs)) ∧ wk env c1 fun e c2 => ∃ k, e.key = some k ∧ kvs.length < sizeLine ∧ E.nx (env.set i (.ow (.d (pD kvs k d)))) c2 := rfl
theorem e_FrzD : wFrzD i a E env c = ∃ kvs, env[i]? = some (.ow (.d kvs)) ∧ a E (env.set i (.val (.dic (kvs.map (·.1)) (kvs.map (·.2))))) c := rfl
end
end L2.DL

set_option Elab.async false
set_option linter.all false
set_option autoImplicit false
set_option maxRecDepth 100000
/-! The next word. -/
namespace L2.DL
open PySem PySem.Spec
/-- the least end from a depth with so many ones left -/
theorem least_end : ∀ (s : List Bool) (d m : Nat), dy d s = true → s.count true = m → ltB s (List.replicate d false ++ starW m) = false
  | s, 0, m, h, hc => by
    have hl := count_two s
    have hh := ht_cnt s 0 0 ((dy_ht s 0).mp h)
    exact starW_least m s h (by omega)
  | [], d + 1, m, h, hc => by cases h
  | true :: s, d + 1, m, h, hc => rfl
  | false :: s, d + 1, m, h, hc => by
    rw [List.replicate_succ, List.cons_append]
    show ltB s (List.replicate d false ++ starW m) = false
    exact least_end s d m h (by simpa using hc)
theorem dns_dy' : ∀ (n e : Nat) (r : List Bool), dy (n + e) (List.replicate n false ++ r) = dy e r
  | 0, e, r => by rw [Nat.zero_add]; rfl
  | n + 1, e, r => by
    rw [List.replicate_succ, List.cons_append, show n + 1 + e = (n + e) + 1 by omega]
    exact dns_dy' n e r
theorem ltB_pre : ∀ (x a b : List Bool), ltB (x ++ a) (x ++ b) = ltB a b
  | [], _, _ => rfl
  | c :: x, a, b => by
    show (if c = c then ltB (x ++ a) (x ++ b) else _) = _
    rw [if_pos rfl, ltB_pre x a b]
/-- where a greater row of the same length leaves -/
theorem ltB_split : ∀ (a b : List Bool), a.length = b.length → ltB a b = true → ∃ x s t, a = x ++ false :: s ∧ b = x ++ true :: t ∧ s.length = t.length
  | [], [], _, h => by cases h
  | [], _ :: _, h, _ => by cases h
  | _ :: _, [], h, _ => by cases h
  | c :: a, d :: b, hl, h => by
    by_cases e : c = d
    · subst e
      have h' : ltB a b = true := by
        unfold ltB at h
        rwa [if_pos rfl] at h
      obtain ⟨x, s, t, rfl, rfl, e3⟩ := ltB_split a b (by simpa using hl) h'
      exact ⟨c :: x, s, t, rfl, rfl, e3⟩
    · have hcd : c = false ∧ d = true := by
        unfold ltB at h
        rw [if_neg e] at h
        cases c <;> cases d <;> simp_all
      obtain ⟨rfl, rfl⟩ := hcd
      exact ⟨[], a, b, rfl, rfl, by simpa using hl⟩
theorem pre_two {x y : List Bool} {s t : List Bool} {c : Bool} (h : x ++ s = y ++ c :: t) (hl : y.length < x.length) : ∃ z, x = y ++ c :: z ∧ t = z ++ s := by
  have h1 := congrArg (List.take y.length) h
  rw [List.take_append_of_le_length (Nat.le_of_lt hl), List.take_append_of_le_length (Nat.le_refl _), List.take_length] at h1
  have h2 := congrArg (List.drop y.length) h
  rw [List.drop_append_of_le_length (Nat.le_of_lt hl), List.drop_append_of_le_length (Nat.le_refl _), List.drop_length, List.nil_append] at h2
  cases hz : x.drop y.length with
  | nil =>
    have := congrArg List.length hz
    rw [List.length_drop] at this
    simp at this
    omega
  | cons e z =>
    rw [hz, List.cons_append] at h2
    obtain ⟨e1, e2⟩ := List.cons.inj h2
    subst e1
    refine ⟨z, ?_, e2.symm⟩
    have := List.take_append_drop y.length x
    rw [h1, hz] at this
    exact this.symm
/-- the next word: the parts -/
theorem next_spec {x : List Bool} {a r d : Nat} (hx : ht 0 x = some d) (hw : dy 0 (x ++ false :: (List.replicate (a + 1) true ++ List.replicate r false)) = true) :
    let w := x ++ false :: (List.replicate (a + 1) true ++ List.replicate r false)
    let v := x ++ true :: (List.replicate (d + 1) false ++ starW a)
    dy 0 v = true ∧ v.length = w.length ∧ ltB w v = true ∧ ∀ u, dy 0 u = true → u.length = w.length → ltB w u = true → ltB u v = false := by
  have hcx := ht_cnt x 0 d hx
  have hcw := ht_cnt _ 0 0 ((dy_ht _ 0).mp hw)
  have e1 : (x ++ false :: (List.replicate (a + 1) true ++ List.replicate r false)).count true = x.count true + (a + 1) := by
    simp [List.count_append, List.count_cons, List.count_replicate]
  have e2 : (x ++ false :: (List.replicate (a + 1) true ++ List.replicate r false)).count false = x.count false + 1 + r := by
    simp [List.count_append, List.count_cons, List.count_replicate]
    omega
  rw [e1, e2] at hcw
  have hr : r = d + a := by omega
  have hv : dy 0 (x ++ true :: (List.replicate (d + 1) false ++ starW a)) = true := by
    rw [ht_dy hx]
    show dy (d + 1) (List.replicate (d + 1) false ++ starW a) = true
    have := dns_dy' (d + 1) 0 (starW a)
    rw [Nat.add_zero] at this
    rw [this]
    exact starW_dy a
  refine ⟨hv, ?_, ?_, ?_⟩
  · simp only [List.length_append, List.length_cons, List.length_replicate, starW_len]
    omega
  · exact ltB_01 x _ _
  · intro u hu hl hlt
    obtain ⟨y, s, t, es, rfl, hst⟩ := ltB_split _ _ hl.symm hlt
    -- y against x
    by_cases q1 : y.length < x.length
    · obtain ⟨z, rfl, _⟩ := pre_two es q1
      cases q : ltB (y ++ true :: t) (y ++ false :: z ++ true :: (List.replicate (d + 1) false ++ starW a)) with
      | false => rfl
      | true =>
        rw [List.append_assoc, ltB_pre] at q
        cases q
    · by_cases q2 : x.length < y.length
      · exfalso
        obtain ⟨z, ey, ez⟩ := pre_two es.symm q2
        -- y = x ++ false :: z, replicate.. = z ++ false :: s
        have hcu := ht_cnt _ 0 0 ((dy_ht _ 0).mp hu)
        have hz1 : z = List.replicate (a + 1) true ++ List.replicate (z.length - (a + 1)) false ∧ a + 1 ≤ z.length := by
          have hge : a + 1 ≤ z.length := by
            by_cases g : a + 1 ≤ z.length
            · exact g
            · exfalso
              have this : (List.replicate (a + 1) true ++ List.replicate r false)[z.length]? = (z ++ false :: s)[z.length]? := by rw [ez]
              rw [List.getElem?_append_left (by rw [List.length_replicate]; omega), List.getElem?_replicate, if_pos (by omega), List.getElem?_append_right (Nat.le_refl _), Nat.sub_self] at this
              cases this
          refine ⟨?_, hge⟩
          have h1 := congrArg (List.take z.length) ez
          rw [List.take_append_of_le_length (l₁ := z) (Nat.le_refl _), List.take_length, List.take_append, List.take_of_length_le (by rw [List.length_replicate]; exact hge), List.take_replicate, List.length_replicate] at h1
          have hm : min (z.length - (a + 1)) r = z.length - (a + 1) := by
            have := congrArg List.length ez
            simp only [List.length_append, List.length_replicate, List.length_cons] at this
            omega
          rw [hm] at h1
          exact h1.symm
        have hcz : z.count true = a + 1 := by
          rw [hz1.1]
          simp [List.count_append, List.count_replicate]
        have ht2 := count_two (y ++ true :: t)
        have hlen : (y ++ true :: t).length = 2 * (x.count true + (a + 1)) := by
          rw [hl]
          simp only [List.length_append, List.length_cons, List.length_replicate]
          have := count_two x
          omega
        have hcy : (y ++ true :: t).count true = x.count true + (a + 1) + 1 + t.count true := by
          rw [ey]
          simp only [List.count_append, List.count_cons, hcz]
          simp
          omega
        omega
      · have hxy : x.length = y.length := by omega
        obtain ⟨e3, e4⟩ := List.append_inj es hxy
        subst e3
        rw [ltB_pre]
        show ltB t (List.replicate (d + 1) false ++ starW a) = false
        have hdt : dy (d + 1) t = true := by
          rw [ht_dy hx] at hu
          exact hu
        have hcu := ht_cnt _ 0 0 ((dy_ht _ 0).mp hu)
        have ht2 := count_two (x ++ true :: t)
        have hlen : (x ++ true :: t).length = 2 * (x.count true + (a + 1)) := by
          rw [hl]
          simp only [List.length_append, List.length_cons, List.length_replicate]
          have := count_two x
          omega
        have hct : (x ++ true :: t).count true = x.count true + 1 + t.count true := by
          simp only [List.count_append, List.count_cons]
          simp
          omega
        exact least_end t (d + 1) a hdt (by omega)
/-- no word is greater than the line's -/
theorem last_spec {p r : Nat} {u : List Bool} (hu : dy 0 u = true) (hl : u.length = 2 * p) (hr : r = p) : ltB (List.replicate p true ++ List.replicate r false) u = false := by
  subst hr
  cases q : ltB (List.replicate r true ++ List.replicate r false) u with
  | false => rfl
  | true =>
    exfalso
    obtain ⟨y, s, t, es, rfl, hst⟩ := ltB_split _ _ (by simp; omega) q
    have hge : r ≤ y.length := by
      by_cases g : r ≤ y.length
      · exact g
      · exfalso
        have this : (List.replicate r true ++ List.replicate r false)[y.length]? = (y ++ false :: s)[y.length]? := by rw [es]
        rw [List.getElem?_append_left (by rw [List.length_replicate]; omega), List.getElem?_replicate, if_pos (by omega), List.getElem?_append_right (Nat.le_refl _), Nat.sub_self] at this
        cases this
    have hy : y.count true = r := by
      have h1 := congrArg (List.take y.length) es
      rw [List.take_append_of_le_length (l₁ := y) (Nat.le_refl _), List.take_length, List.take_append, List.take_of_length_le (by rw [List.length_replicate]; exact hge), List.take_replicate, List.length_replicate] at h1
      rw [← h1]
      simp [List.count_append, List.count_replicate]
    have h1 := ht_cnt _ 0 0 ((dy_ht _ 0).mp hu)
    have h2 := count_two (y ++ true :: t)
    have h3 : (y ++ true :: t).count true = r + 1 + t.count true := by
      simp only [List.count_append, List.count_cons, hy]
      simp
      omega
    omega
/-- the word behind a word in an ascending list of all -/
def suc (p : Nat) (w : List Bool) : Option (List Bool) := (allW p).find? fun u => ltB w u
theorem suc_of {p : Nat} {w v : List Bool} (hv : v ∈ allW p) (hlt : ltB w v = true) (hmin : ∀ u ∈ allW p, ltB w u = true → ltB u v = false) : suc p w = some v := by
  unfold suc
  cases q : (allW p).find? fun u => ltB w u with
  | none =>
    have := List.find?_eq_none.mp q v hv
    exact absurd hlt this
  | some u =>
    have h1 := List.find?_some q
    have h2 := List.mem_of_find?_eq_some q
    have h3 := hmin u h2 h1
    by_cases e : ltB v u = true
    · exfalso
      -- v stands ahead of u in the list, and is greater than w
      obtain ⟨as, bs, eq, hn⟩ := List.find?_eq_some_iff_append.mp q |>.2
      have hva : v ∈ as := by
        have hasc := allW_asc p
        rw [eq] at hv
        rw [eq] at hasc
        rcases List.mem_append.mp hv with h | h
        · exact h
        · rcases List.mem_cons.mp h with rfl | h
          · rw [ltB_irr] at e; cases e
          · have := (List.pairwise_cons.mp (List.pairwise_append.mp hasc).2.1).1 v h
            have := ltB_trans _ _ _ this e
            rw [ltB_irr] at this
            cases this
      have := hn v hva
      simp [hlt] at this
    · rw [ltB_anti u v h3 (by simpa using e)]
theorem suc_none {p : Nat} {w : List Bool} (h : ∀ u ∈ allW p, ltB w u = false) : suc p w = none := by
  unfold suc
  rw [List.find?_eq_none]
  intro u hu
  rw [h u hu]
  exact Bool.false_ne_true
theorem suc_at {p i : Nat} {w : List Bool} (h : (allW p)[i]? = some w) : suc p w = (allW p)[i + 1]? := by
  have hasc := allW_asc p
  obtain ⟨hi, hw⟩ := List.getElem?_eq_some_iff.mp h
  have hpw := List.pairwise_iff_getElem.mp hasc
  cases q : (allW p)[i + 1]? with
  | none =>
    have hn := List.getElem?_eq_none_iff.mp q
    refine suc_none fun u hu => ?_
    obtain ⟨j, hj, rfl⟩ := List.getElem_of_mem hu
    by_cases e : j = i
    · subst e
      rw [hw, ltB_irr]
    · have h1 := hpw j i hj hi (by omega)
      cases z : ltB w (allW p)[j] with
      | false => rfl
      | true =>
        rw [hw] at h1
        have := ltB_trans _ _ _ h1 z
        rw [ltB_irr] at this
        cases this
  | some v =>
    obtain ⟨hi1, hv⟩ := List.getElem?_eq_some_iff.mp q
    refine suc_of (List.mem_of_getElem? q) ?_ fun u hu hlt => ?_
    · have := hpw i (i + 1) hi hi1 (by omega)
      rwa [hw, hv] at this
    · obtain ⟨j, hj, rfl⟩ := List.getElem_of_mem hu
      by_cases e : j ≤ i
      · by_cases e2 : j = i
        · subst e2
          rw [hw, ltB_irr] at hlt
          cases hlt
        · have := hpw j i hj hi (by omega)
          rw [hw] at this
          have := ltB_trans _ _ _ this hlt
          rw [ltB_irr] at this
          cases this
      · by_cases e2 : j = i + 1
        · subst e2
          rw [hv, ltB_irr]
        · have h1 := hpw (i + 1) j hi1 hj (by omega)
          rw [hv] at h1
          cases z : ltB (allW p)[j] v with
          | false => rfl
          | true =>
            have := ltB_trans _ _ _ h1 z
            rw [ltB_irr] at this
            cases this
theorem frontW_len (p : Nat) : ∀ k, (frontW p k).length ≤ 2 ^ k
  | 0 => Nat.le_refl _
  | k + 1 => by
    show ((frontW p k).flatMap _).length ≤ _
    rw [List.length_flatMap]
    have h1 : ∀ l, (preW p l).length ≤ 2 := fun l => by
      unfold preW
      split
      · exact Nat.zero_le _
      · split <;> split <;> simp
    have key : ∀ ls : List (List Bool), ((ls.map fun l => (preW p l).length).sum) ≤ 2 * ls.length := fun ls => by
      induction ls with
      | nil => exact Nat.le_refl _
      | cons l ls ih =>
        rw [List.map_cons, List.sum_cons, List.length_cons]
        have := h1 l
        omega
    have := key (frontW p k)
    have := frontW_len p k
    rw [Nat.pow_succ]
    omega
theorem allW_len (p : Nat) : (allW p).length ≤ 2 ^ (2 * p) := frontW_len p _
theorem allW_0 (p : Nat) : (allW p)[0]? = some (starW p) := by
  have hm : starW p ∈ allW p := allW_mem.mpr ⟨starW_dy p, starW_len p⟩
  have hasc := allW_asc p
  cases q : allW p with
  | nil => rw [q] at hm; cases hm
  | cons h t =>
    rw [q] at hm hasc
    rcases List.mem_cons.mp hm with e | e
    · rw [e]; rfl
    · have h1 := (List.pairwise_cons.mp hasc).1 _ e
      have h2 : h ∈ allW p := by rw [q]; exact List.mem_cons_self
      obtain ⟨d1, d2⟩ := allW_mem.mp h2
      rw [starW_least p h d1 d2] at h1
      cases h1
/-- the names of all trees -/
def names (p : Nat) : List (List Bool) := (allW p).filter fun w => nm w == w
theorem names_asc (p : Nat) : asc (names p) := (allW_asc p).filter _
theorem names_mem {p : Nat} {w : List Bool} : w ∈ names p ↔ (dy 0 w = true ∧ w.length = 2 * p) ∧ nm w = w := by
  unfold names
  rw [List.mem_filter, allW_mem, beq_iff_eq]
theorem vD_put (kvs : List (Key × D)) (k j : Key) (d : D) : (vD (pD kvs k d) j).isSome = (decide (j = k) || (vD kvs j).isSome) := by
  have key : ∀ ws : List (Key × D), (vD ws j).isSome = ws.any fun kv => decide (kv.1 = j) := fun ws => by
    unfold vD
    rw [Option.isSome_map, Bool.eq_iff_iff, List.find?_isSome, List.any_eq_true]
  rw [key, key]
  unfold pD
  split
  · rename_i h
    rw [List.any_map]
    have e : ((fun kv : Key × D => decide (kv.1 = j)) ∘ fun kv : Key × D => if kv.1 = k then (kv.1, d) else kv) = fun kv => decide (kv.1 = j) := by
      funext kv
      show decide ((if kv.1 = k then (kv.1, d) else kv).1 = j) = _
      split <;> rfl
    rw [e]
    by_cases q : j = k
    · subst q
      rw [h]
      simp
    · simp [q]
  · rw [List.any_append]
    simp only [List.any_cons, List.any_nil, Bool.or_false]
    rw [Bool.or_comm]
    congr 1
    exact decide_eq_decide.mpr ⟨Eq.symm, Eq.symm⟩
theorem pD_len (kvs : List (Key × D)) (k : Key) (d : D) : (pD kvs k d).length ≤ kvs.length + 1 := by
  unfold pD
  split
  · rw [List.length_map]; omega
  · rw [List.length_append]; exact Nat.le_refl _
end L2.DL

set_option Elab.async false
set_option linter.all false
set_option autoImplicit false
set_option maxRecDepth 100000
/-! sorted(set(xs)), xs a list of texts. -/
namespace L2.DL
open PySem PySem.Spec PyProof.Rows
theorem perm_of_sub {α : Type} [DecidableEq α] : ∀ {l m : List α}, l.Nodup → (∀ x ∈ l, x ∈ m) → m.length ≤ l.length → l.Perm m
  | [], m, _, _, hl => by
    have : m = [] := List.length_eq_zero_iff.mp (Nat.le_zero.mp hl)
    rw [this]
  | x :: l, m, hn, hs, hl => by
    have hx := hs x List.mem_cons_self
    have hp := List.perm_cons_erase hx
    have hn2 := List.nodup_cons.mp hn
    have hlen := hp.length_eq
    rw [List.length_cons] at hlen
    refine ((perm_of_sub hn2.2 (fun y hy => ?_) ?_).cons x).trans hp.symm
    · have := hs y (List.mem_cons_of_mem _ hy)
      have := hp.mem_iff.mp this
      rcases List.mem_cons.mp this with e | e
      · subst e; exact absurd hy hn2.1
      · exact e
    · rw [List.length_cons] at hl
      omega
/-- a set of texts that can be walked -/
def SetS (P : Program) (w : World) (h : Heap) (a : Addr) (S : Str → Bool) (n : Nat) : Prop :=
  ∃ o es ep t, h.get? a = some o ∧ o.ExactSet ∧ o.data = .set es ep t ∧ ElemsOf (PySem.strKind P w) es.toList ∧ (∀ k, S k = true ↔ ∃ e ∈ es.toList, (PySem.strKind P w).is k e.2 = true) ∧
    es.size < scanBound ∧ t.fits es.size = true ∧ es.size = n ∧ Ris t.place.toList ∧ (w.params.followText "set-order" = true ∨ t.led = true)
section
variable {P : Program} {w : World} {A : Around} {E : Value → Shared → Prop} {s : Shared} {a : Addr} {S : Str → Bool} {n : Nat}
theorem SetS.congr {h : Heap} {S' : Str → Bool} {n' : Nat} (R : SetS P w h a S n) (e : ∀ k, S k = S' k) (en : n = n') : SetS P w h a S' n' := by
  have : S = S' := funext e
  subst this en
  exact R
theorem SetS.tail {g : Bool → Sem Unit} (hg : ∀ (b : Bool) (s₁ : Shared) (Q' : Unit → Shared → Prop), Q' () s₁ → wpAny (model P w) A (g b) Q' E s₁)
    {o : Obj} {es : Array (Int × Value)} {ep : Nat} {t : SetTable} (ho : s.heap.get? a = some o) (hex : o.ExactSet) (hd : o.data = .set es ep t)
    {es1 : Array (Int × Value)} {t2 : SetTable} {S' : Str → Bool} (g1 : ElemsOf (PySem.strKind P w) es1.toList) (m1 : ∀ k, S' k = true ↔ ∃ e ∈ es1.toList, (PySem.strKind P w).is k e.2 = true)
    (hb1 : es1.size < scanBound) (hf2 : t2.fits es1.size = true) (hr : Ris t2.place.toList) (hl : w.params.followText "set-order" = true ∨ t2.led = true) {wasDummy : Bool} {R : Option Bool → Shared → Prop}
    (hR : ∀ h', Heap.SameBut a s.heap h' → SetS P w h' a S' es1.size → R (some true) { s with heap := h' }) :
    wpAny (model P w) A (do
        storeSet a es1 t2
        if (!wasDummy && t2.tooFull) = true then do
            g (relayAll t2 es1 (SetTable.grown es1.size)).2.2
            storeSet a (relayAll t2 es1 (SetTable.grown es1.size)).1 (relayAll t2 es1 (SetTable.grown es1.size)).2.1
            pure (some true)
          else pure (some true)) R E s := by
  refine wpAny_bind (wpAny_storeSet_of ho hd ?_ (fits_of_scanBound hb1))
  have ho1 := store_at (es' := es1) (t' := t2) ho hd
  have sb1 := Heap.SameBut.update s.heap a (Obj.putSet es1 t2)
  split
  · have pm := relayAll_perm t2 es1 (SetTable.grown es1.size)
    have hf3 := relayAll_fits t2 es1 (SetTable.grown es1.size)
    have hr3 := relayAll_ris t2 es1 (SetTable.grown es1.size)
    have hl3 := relayAll_led t2 es1 (SetTable.grown es1.size)
    generalize relayAll t2 es1 (SetTable.grown es1.size) = Z at pm hf3 hr3 hl3 ⊢
    obtain ⟨es2, t3, gave⟩ := Z
    dsimp only at pm hf3 hr3 hl3 ⊢
    have hsz : es2.size = es1.size := by rw [← Array.length_toList, pm.length_eq, Array.length_toList]
    have hb2 : es2.size < scanBound := by rw [hsz]; exact hb1
    refine wpAny_bind (hg _ _ _ ?_)
    refine wpAny_bind (wpAny_storeSet_of ho1 rfl ?_ (fits_of_scanBound hb2))
    have ho2 := store_at (es' := es2) (t' := t3) ho1 rfl
    refine wpAny_pure (hR _ (sb1.trans (Heap.SameBut.update _ a _)) ?_)
    refine ⟨_, es2, _, t3, ho2, hex, rfl, fun e he => g1 e (pm.mem_iff.mp he), fun k => (m1 k).trans ?_, hb2, hf3, hsz, hr3, hl.imp id fun z => by rw [hl3]; exact z⟩
    constructor
    · rintro ⟨e, he, q⟩; exact ⟨e, pm.mem_iff.mpr he, q⟩
    · rintro ⟨e, he, q⟩; exact ⟨e, pm.mem_iff.mp he, q⟩
  · exact wpAny_pure (hR _ sb1 ⟨_, es1, _, t2, ho1, hex, rfl, g1, m1, hb1, hf2, rfl, hr, hl⟩)
theorem SetS.add {k : Str} {tk : Tok} {Q : Bool → Shared → Prop} (R : SetS P w s.heap a S n) (room : n + 1 < scanBound)
    (hQ : ∀ h', Heap.SameBut a s.heap h' → SetS P w h' a (fun j => S j || decide (j = k)) (if S k = true then n else n + 1) → Q (!S k) { s with heap := h' }) :
    wpAny (model P w) A (setAddHashed a (.str k tk) ((PySem.strKind P w).hash k)) Q E s := by
  obtain ⟨o, es, ep, t, ho, hex, hd, hel, hm, hb, hf, hn, hr, hl⟩ := R
  have hkey : (PySem.strKind P w).is k (.str k tk) = true := strKind_is P w k tk
  have hsc : (Value.str k tk).scannable = true := rfl
  unfold setAddHashed setAddHashedIn
  refine wpAny_holding (wpAny_bind (wpAny_setState_of ho hd hf ?_))
  dsimp only
  rw [byScan_of hsc hb hel]
  simp only [↓reduceIte]
  unfold setAddByScan
  refine wpAny_bind ?_
  refine wpAny_bind (wpAny_rule ?_)
  refine wpAny_bind (wpAny_setScan_of hkey ho hd hf hel ?_)
  cases hfi : List.findIdx? (fun e => (PySem.strKind P w).is k e.2) es.toList with
  | some j =>
    dsimp only
    obtain ⟨hj, pj, _⟩ := List.findIdx?_eq_some_iff_getElem.mp hfi
    have hSk : S k = true := (hm k).2 ⟨es.toList[j], List.getElem_mem hj, pj⟩
    refine wpAny_pure (wpAny_pure ?_)
    have q := hQ s.heap (Heap.SameBut.refl a s.heap) ⟨o, es, ep, t, ho, hex, hd, hel, fun i => by
      rw [Bool.or_eq_true, decide_eq_true_eq, ← hm i]
      exact ⟨fun z => z.elim id (fun e => e ▸ hSk), .inl⟩, hb, hf, by rw [if_pos hSk]; exact hn, hr, hl⟩
    rw [hSk] at q
    exact q
  | none =>
    dsimp only
    have hSk : S k = false := by
      cases q : S k with
      | false => rfl
      | true =>
        obtain ⟨e, he, q2⟩ := (hm k).1 q
        have c := List.findIdx?_eq_none_iff.mp hfi e he
        rw [q2] at c
        cases c
    have hgw : ∀ (b : Bool) {s₁ : Shared} {Q' : Unit → Shared → Prop}, Q' () s₁ → wpAny (model P w) A (match b with | true => rule "set.scan.the-table-gave-way" | false => pure ()) Q' E s₁ :=
      fun b s₁ Q' q => by cases b <;> first | exact wpAny_pure q | exact wpAny_rule q
    have pm := layNew_perm t es ((PySem.strKind P w).hash k) (.str k tk)
    have hf1 := layNew_fits t es ((PySem.strKind P w).hash k) (.str k tk)
    have hr1 := layNew_ris t es ((PySem.strKind P w).hash k) (.str k tk) hr
    have hl1 := layNew_led t es ((PySem.strKind P w).hash k) (.str k tk)
    generalize layNew t es ((PySem.strKind P w).hash k) (.str k tk) = Z at pm hf1 hr1 hl1 ⊢
    obtain ⟨es1, t1, wasDummy, gave⟩ := Z
    dsimp only at pm hf1 hr1 hl1 ⊢
    rw [Array.toList_push] at pm
    have pc : es1.toList.Perm (((PySem.strKind P w).hash k, Value.str k tk) :: es.toList) := pm.trans (List.perm_append_singleton _ _)
    have g1 : ElemsOf (PySem.strKind P w) es1.toList := fun e he => by
      rcases List.mem_cons.mp (pc.mem_iff.mp he) with z | z
      · rw [z]; exact ⟨⟨k, hkey, rfl⟩, rfl⟩
      · exact hel e z
    have m1 : ∀ i, (S i || decide (i = k)) = true ↔ ∃ e ∈ es1.toList, (PySem.strKind P w).is i e.2 = true := fun i => by
      rw [Bool.or_eq_true, decide_eq_true_eq, hm i]
      constructor
      · rintro (⟨e, he, q⟩ | rfl)
        · exact ⟨e, pc.mem_iff.mpr (List.mem_cons_of_mem _ he), q⟩
        · exact ⟨_, pc.mem_iff.mpr List.mem_cons_self, hkey⟩
      · rintro ⟨e, he, q⟩
        rcases List.mem_cons.mp (pc.mem_iff.mp he) with z | z
        · subst z
          exact .inr ((PySem.strKind P w).inj _ _ _ q hkey)
        · exact .inl ⟨e, z, q⟩
    have hsz : es1.size = n + 1 := by rw [← Array.length_toList, pc.length_eq, List.length_cons, Array.length_toList, hn]
    have hb1 : es1.size < scanBound := by rw [hsz]; exact room
    have hled : w.params.followText "set-order" = true ∨ t1.led = true := hl.imp id fun z => by rw [hl1]; exact z
    have fin : ∀ h', Heap.SameBut a s.heap h' → SetS P w h' a (fun j => S j || decide (j = k)) es1.size → Q true { s with heap := h' } := fun h' sb r => by
      have q := hQ h' sb
      rw [hSk] at q
      rw [hsz] at r
      exact q r
    refine wpAny_bind (hgw _ ?_)
    split
    · refine wpAny_bind ?_
      rw [hashByValue_scannable 8 hsc]
      refine wpAny_pure ?_
      refine SetS.tail ?_ ho hex hd g1 m1 hb1 ?_ ?_ ?_ ?_
      · intro b s₁ Q' q; cases b <;> first | exact wpAny_pure q | exact wpAny_rule q
      · first | (split <;> first | exact hf1 | exact SetTable.fits_plain_off hf1) | exact hf1
      · first | (split <;> exact hr1) | exact hr1
      · first | (split <;> exact hled) | exact hled
      · intro h' sb r; dsimp only; exact wpAny_pure (fin h' sb r)
    · refine wpAny_bind (wpAny_pure ?_)
      simp only [↓reduceIte]
      refine SetS.tail ?_ ho hex hd g1 m1 hb1 hf1 hr1 hled ?_
      · intro b s₁ Q' q; cases b <;> first | exact wpAny_pure q | exact wpAny_rule q
      · intro h' sb r; dsimp only; exact wpAny_pure (fin h' sb r)
end
section
variable {prog : Program} {w : World} {A : Around} {R : Result → Shared → Prop} {I : Addr} {fp wr : List Addr} {G : Array GenState → Array GenState → Prop} {n : Nat} {P : Nat → Value → Prop} {St : Nat → Shared → Prop}
theorem loopS (W : WalksS prog w A.in1 I fp wr G n P St) (S : Addr) (hSf : S ∉ fp) (xs : List Str) (hsz : xs.length = n) (hb : n + 1 < scanBound)
    (hval : ∀ i v, P i v → ∃ t, v = .str (xs.getD i Str.empty) t) :
    ∀ (k i : Nat) (s : Shared), n - i = k → i ≤ n → St i s →
      SetS prog w s.heap S (fun k' => (dd (xs.take i)).any (· == k')) (dd (xs.take i)).length →
      (∀ s', Moved (S :: wr) G s s' → SetS prog w s'.heap S (fun k' => (dd (xs.take n)).any (· == k')) (dd (xs.take n)).length → R (.ok (.ret .none)) s') →
      codeAny (model prog w) A (.builtin "set.update.loop" ⟨[.ref S, .ref I], []⟩) R s := by
  have hSw : S ∉ wr := fun h => hSf (W.sub _ h)
  have hsub : ∀ b ∈ wr, b ∈ S :: wr := fun b hb => List.mem_cons_of_mem _ hb
  intro k
  induction k with
  | zero =>
    intro i s hk hi hst hS hR
    have hin : i = n := by omega
    subst hin
    refine codeAny_builtin PyProof.Rows.F.entry_set_update_loop ?_
    rw [Around.under_plainId PyProof.Rows.F.plain_set_update_loop _]
    show wpAny _ A.in1 (pyNext (.ref I) >>= _) _ _ s
    refine wpAny_bind (W.done s _ _ hst fun s' hm => ?_)
    show wpAny _ A.in1 (ret Value.none) _ _ s'
    exact wpAny_pure (hR s' (hm.mono hsub) (by
      obtain ⟨o, es, ep, t, ho, rest⟩ := hS
      exact ⟨o, es, ep, t, hm.heap S _ hSw ho, rest⟩))
  | succ k ih =>
    intro i s hk hi hst hS hR
    have hlt : i < n := by omega
    refine codeAny_builtin PyProof.Rows.F.entry_set_update_loop ?_
    rw [Around.under_plainId PyProof.Rows.F.plain_set_update_loop _]
    show wpAny _ A.in1 (pyNext (.ref I) >>= _) _ _ s
    refine wpAny_bind (W.item i s _ _ hlt hst fun v s' hP hst' hm => ?_)
    obtain ⟨t, rfl⟩ := hval i v hP
    have hS' : SetS prog w s'.heap S (fun k' => (dd (xs.take i)).any (· == k')) (dd (xs.take i)).length := by
      obtain ⟨o, es, ep, tb, ho, rest⟩ := hS
      exact ⟨o, es, ep, tb, hm.heap S _ hSw ho, rest⟩
    show wpAny _ A.in1 (holding [Value.str (xs.getD i Str.empty) t] (setAdd S (.str (xs.getD i Str.empty) t)) >>= _) _ _ s'
    refine wpAny_bind (wpAny_holding ?_)
    unfold setAdd
    refine wpAny_holding ?_
    refine wpAny_bind ((PySem.strKind prog w).pyHash (k := xs.getD i Str.empty) (strKind_is _ _ _ _) ?_)
    have hroom : (dd (xs.take i)).length + 1 < scanBound := by
      have := dd_len_le (xs.take i)
      rw [List.length_take] at this
      omega
    refine SetS.add (s := { s' with toks := s'.toks + 1 }) hS' hroom fun h' hsb hS2 => ?_
    have et : xs.take (i + 1) = xs.take i ++ [xs.getD i Str.empty] := by
      rw [List.take_add_one, List.getElem?_eq_getElem (by omega)]
      simp [List.getD, List.getElem?_eq_getElem (show i < xs.length by omega)]
    have hSi : SetS prog w h' S (fun k' => (dd (xs.take (i + 1))).any (· == k')) (dd (xs.take (i + 1))).length :=
      hS2.congr (fun k' => by rw [et, dd_snoc, step_anyS]) (by rw [et, dd_snoc, step_lengthS])
    refine wpAny_pure ⟨plainId_quiet PyProof.Rows.F.plain_set_update_loop _, ih (i + 1) _ (by omega) hlt (W.frame _ s' _ _ hst' (Nat.le_succ _) fun b hb o e => ?_) hSi fun s'' hm'' hS'' => ?_⟩
    · rw [hsb.2 b (fun h : b = S => hSf (by rw [← h]; exact hb))]; exact e
    · refine hR s'' (Moved.trans W.gtrans ((hm.mono hsub).then_heap (Nat.le_succ _) fun b o hb e => ?_) hm'') hS''
      rw [hsb.2 b (fun h : b = S => hb (by rw [h]; exact List.mem_cons_self))]; exact e
end
section
variable {prog : Program} {w : World} {A : Around} {E : Value → Shared → Prop} {s : Shared}
theorem code_newS (a : Value) {Q₁ : Value → Shared → Prop}
    (h : Q₁ (.ref s.heap.objs.size) { s with heap := s.heap.push { cls := .type "set", dict := none, data := .set #[] 0 (.fresh 0 0 (!w.params.followText "set-order")) } }) :
    codeAny (model prog w) A (.call (.builtin "set.__new__") ⟨[.type "set", a], []⟩) (wants Q₁ E) s := by
  refine codeAny_of_tree ?_
  show wpAny _ A.in1 (do checkBuiltinCall "set.__new__" ⟨[.type "set", a], []⟩; again (.builtin "set.__new__" ⟨[.type "set", a], []⟩)) _ _ s
  refine wpAny_bind (wpAny_of_eq (PySem.F.newCall_set_1 a) (wpAny_pure ⟨plainId_quiet PySem.F.plain_set_new _, codeAny_builtin PySem.F.entry_set_new ?_⟩))
  rw [Around.under_plainId PySem.F.plain_set_new _]
  unfold Builtin.«set.__new__» Builtin.Frozenset.newClass
  have hsub := sub_set_self
  obtain ⟨hp, g, d, tk, os⟩ := s
  dsimp only
  wp_walk
  refine wpAny_askSetting (wpAny_pure ?_)
  dsimp only
  simp only [newObj]
  refine wpAny_bind (wpAny_alloc (wpAny_pure ?_))
  exact wpAny_pure h
theorem SetS.fresh {h : Heap} : SetS prog w (h.push { cls := .type "set", dict := none, data := .set #[] 0 (.fresh 0 0 (!w.params.followText "set-order")) }) h.objs.size (fun _ => false) 0 :=
  ⟨_, #[], 0, _, Heap.get?_push_size _ rfl, ⟨rfl, rfl, rfl⟩, rfl, (fun e he => by simp at he), (fun k => by simp), (by decide), (by rfl), rfl, List.Pairwise.nil, by
    show _ ∨ (!w.params.followText "set-order") = true
    cases w.params.followText "set-order"
    · exact .inr rfl
    · exact .inl rfl⟩
set_option maxHeartbeats 3200000 in
theorem set_listS {l : Addr} {items : Array Value} {xs : List Str} {Q : Value → Shared → Prop}
    (hh : A.handled = none) (hl : s.heap.IsList l items) (hi : StrsAre items.toList xs) (hb : xs.length + 1 < scanBound)
    (h : ∀ (h' : Heap) (tk : Nat), SetS prog w h' s.heap.objs.size (fun k' => (dd xs).any (· == k')) (dd xs).length →
      (∀ b o, b < s.heap.objs.size → s.heap.get? b = some o → h'.get? b = some o) → Q (.ref s.heap.objs.size) { s with heap := h', toks := tk }) :
    wpAny (model prog w) A (call (.type "set") [.ref l]) Q E s := by
  have hsz : xs.length = items.size := by rw [← StrsAre.len_eq hi, Array.length_toList]
  obtain ⟨ol, hol, hcl, nl, hdl⟩ := hl
  obtain ⟨ocls, odict, odata, oslots⟩ := ol
  simp only at hcl hdl
  subst hcl hdl
  obtain ⟨c, tl, hmro⟩ := PySem.F.called_set.mro
  have hmade := PySem.F.called_set.made
  have hsub := PySem.F.called_set.sub
  refine wpAny_call (codeAny_of_tree ?_)
  show wpAny _ _ (callAny (.type "set") _) _ _ _
  refine wpAny_pure ⟨Code.quiet_builtin _ (by decide +kernel), codeAny_builtin PySem.F.entry_type_call ?_⟩
  rw [Around.under_plain (weight_type_call_type "set" [.ref l] []) rfl]
  have h1 := PySem.F.called_set.notType
  have h2 := PySem.F.called_set.canCreate
  have hct := PySem.F.typeCall_set_1 (.ref l)
  repeat (any_goals (first | assumption | wp_step))
  generalize hled : (!w.params.followText "set-order") = led
  refine codeAny_mono (code_newS (.ref l) (E := E) (Q₁ := fun obj s₁ => obj = .ref s.heap.objs.size ∧ s₁ = { s with heap := s.heap.push { cls := .type "set", dict := none, data := .set #[] 0 (.fresh 0 0 led) } }) (by rw [hled]; exact ⟨rfl, rfl⟩)) fun r s₁ hr => ?_
  rcases r with e | fl
  · exact hr
  rcases fl with _ | _ | _ | obj <;> try exact hr.elim
  obtain ⟨rfl, rfl⟩ := hr
  have hS : (s.heap.push { cls := .type "set", dict := none, data := .set #[] 0 (.fresh 0 0 led) }).get? s.heap.objs.size = some { cls := .type "set", dict := none, data := .set #[] 0 (.fresh 0 0 led) } := Heap.get?_push_size _ rfl
  have hT : Shared.TypeIs { s with heap := s.heap.push { cls := .type "set", dict := none, data := .set #[] 0 (.fresh 0 0 led) } } (.ref s.heap.objs.size) "set" := ⟨_, hS, rfl⟩
  have hli := PySem.F.called_set.init.lookup
  have hbi := PySem.F.called_set.init.bind (.ref s.heap.objs.size)
  repeat (any_goals (first | assumption | wp_step))
  refine codeAny_mono (codeAny_call_builtin (R := wants (fun r s₂ => r = .none ∧ ∃ h' tk, s₂ = { s with heap := h', toks := tk } ∧
      SetS prog w h' s.heap.objs.size (fun k' => (dd xs).any (· == k')) (dd xs).length ∧
      (∀ b o, b < s.heap.objs.size → s.heap.get? b = some o → h'.get? b = some o)) E) PySem.F.called_set.init.plain PySem.F.entry_set_init (check_set_init_1 hT ?_)) fun r₂ s₂ hr₂ => ?_
  · have hol' : (s.heap.push { cls := .type "set", dict := none, data := .set #[] 0 (.fresh 0 0 led) }).get? l = some { cls := .type "list", dict := odict, data := .seq items nl, slots := oslots } := Heap.get?_push_of_some _ hol
    have hsls := PySem.F.sub_list_set
    have hslf := PySem.F.sub_list_frozenset
    have hne : (Value.type "list" == Value.type "dict") = false := by decide
    have hl1 : (s.heap.push { cls := .type "set", dict := none, data := .set #[] 0 (.fresh 0 0 led) }).IsList l items := ⟨_, hol', rfl, nl, rfl⟩
    unfold Builtin.«set.__init__» noKeywords Builtin.Frozenset.updateFrom
    generalize hPI : pyIter = PI
    wp_walk
    subst hPI
    refine wpAny_pyIter_list hl1 ?_
    refine wpAny_bind (wpAny_runValue ?_)
    have hlS : l < s.heap.objs.size := Heap.lt_size hol
    have hh3 : A.in1.in1.in1.handled = none := by simp [hh]
    have hneI : l ≠ (s.heap.push { cls := .type "set", dict := none, data := .set #[] 0 (.fresh 0 0 led) }).objs.size := by
      rw [Heap.size_push]; exact Nat.ne_of_lt (Nat.lt_succ_of_lt hlS)
    have hSf : s.heap.objs.size ∉ [(s.heap.push { cls := .type "set", dict := none, data := .set #[] 0 (.fresh 0 0 led) }).objs.size, l] := by
      rw [Heap.size_push]; simp only [List.mem_cons, List.mem_singleton, List.not_mem_nil, or_false, not_or]
      exact ⟨Nat.ne_of_lt (Nat.lt_succ_self _), Nat.ne_of_gt hlS⟩
    have hval : ∀ (i : Nat) (v : Value), items[i]? = some v → ∃ t, v = .str (xs.getD i Str.empty) t := fun i v hv => SS.strs_at hi i v (by rw [Array.getElem?_toList]; exact hv)
    have hF : SetS prog w ((s.heap.push { cls := .type "set", dict := none, data := .set #[] 0 (.fresh 0 0 led) }).push { cls := .type "list_iterator", data := .fields #[.ref l, .int 0 0] }) s.heap.objs.size (fun _ => false) 0 := by
      rw [← hled]
      obtain ⟨o, es, ep, t, ho, rest⟩ := SetS.fresh (prog := prog) (w := w) (h := s.heap)
      exact ⟨o, es, ep, t, Heap.get?_push_of_some _ ho, rest⟩
    refine loopS ((Walks.list hh3 _ l hneI items).toS) s.heap.objs.size hSf xs hsz (by rw [← hsz]; exact hb) hval (items.size - 0) 0 _ (by omega) (Nat.zero_le _)
      ⟨⟨_, Heap.get?_push_size _ rfl, rfl, rfl⟩, (hl1.push _)⟩
      (hF.congr (fun _ => rfl) rfl) ?_
    intro s' hm hS'
    rw [← hsz, List.take_length] at hS'
    obtain ⟨h', g', d', tk', os'⟩ := s'
    have eg : g' = s.gens := hm.gens
    have ed : d' = s.drawn := hm.drawn
    have eo : os' = s.os := hm.os
    subst eg ed eo
    show wpAny _ _ _ _ _ _
    refine wpAny_pure ?_
    show wpAny _ _ (ret Value.none) _ _ _
    refine wpAny_pure ⟨rfl, h', tk', rfl, hS', fun b o hb e => ?_⟩
    have hb1 : b ≠ s.heap.objs.size := Nat.ne_of_lt hb
    have hb2 : b ≠ (s.heap.push { cls := .type "set", dict := none, data := .set #[] 0 (.fresh 0 0 led) }).objs.size := by
      rw [Heap.size_push]; exact Nat.ne_of_lt (Nat.lt_succ_of_lt hb)
    exact hm.heap b o (by simp only [List.mem_cons, List.mem_singleton, List.not_mem_nil, or_false, not_or]; exact ⟨hb1, hb2⟩) (Heap.get?_push_of_some _ (Heap.get?_push_of_some _ e))
  · rcases r₂ with e | fl₂
    · exact hr₂
    rcases fl₂ with _ | _ | _ | r <;> try exact hr₂.elim
    obtain ⟨rfl, h', tk, rfl, hS', hk'⟩ := hr₂
    repeat (any_goals (first | assumption | wp_step))
    exact h _ _ hS' hk'
/-- the texts that stand in the set -/
theorem keysS {es : List (Int × Value)} (h : ElemsOf (PySem.strKind prog w) es) : ∃ zs : List Str, StrsAre (es.map (·.2)) zs ∧ ∀ k : Str, k ∈ zs ↔ ∃ e ∈ es, (PySem.strKind prog w).is k e.2 = true := by
  induction es with
  | nil => exact ⟨[], .nil, fun k => by simp⟩
  | cons e es ih =>
    obtain ⟨zs, h1, h2⟩ := ih h.tail
    obtain ⟨⟨k, hk, _⟩, _⟩ := h.head
    obtain ⟨tk, hv⟩ := Value.isStrOf_shape hk
    refine ⟨k :: zs, ?_, fun j => ?_⟩
    · rw [List.map_cons, hv]
      exact .cons k tk h1
    · rw [List.mem_cons, h2 j]
      constructor
      · rintro (rfl | ⟨x, hx, q⟩)
        · exact ⟨e, List.mem_cons_self, hk⟩
        · exact ⟨x, List.mem_cons_of_mem _ hx, q⟩
      · rintro ⟨x, hx, q⟩
        rcases List.mem_cons.mp hx with z | z
        · subst z
          exact .inl ((PySem.strKind prog w).inj _ _ _ q hk)
        · exact .inr ⟨x, z, q⟩
end
end L2.DL

set_option Elab.async false
set_option linter.all false
set_option autoImplicit false
set_option maxRecDepth 100000
/-! sorted(set(xs)): the tuple's set, the sorting, the word. -/
namespace L2.DL
open PySem PySem.Spec PyProof.Rows
theorem dd_nd (xs : List Str) : (dd xs).Nodup := by
  have key : ∀ (xs ys : List Str), ys.Nodup → (xs.foldl step_dedup ys).Nodup := fun xs => by
    induction xs with
    | nil => exact fun ys h => h
    | cons x xs ih =>
      intro ys h
      refine ih _ ?_
      unfold step_dedup
      split
      · exact h
      · rename_i q
        refine List.nodup_append.mpr ⟨h, by simp, fun a ha b hb e => q ?_⟩
        have : b = x := by simpa using hb
        subst this e
        exact List.any_eq_true.mpr ⟨a, ha, by simp⟩
  exact key xs [] (by simp)
def tx : Value → Str | .str z _ => z | _ => Str.empty
theorem strs_tx : ∀ {vs : List Value}, (∀ v ∈ vs, ∃ z t, v = .str z t) → StrsAre vs (vs.map tx)
  | [], _ => .nil
  | v :: vs, h => by
    obtain ⟨z, t, rfl⟩ := h v List.mem_cons_self
    exact .cons z t (strs_tx fun u hu => h u (List.mem_cons_of_mem _ hu))
section
variable {prog : Program} {w : World} {A : Around} {E : Value → Shared → Prop} {s : Shared}
set_option maxHeartbeats 3200000 in
theorem set_tupS {l : Addr} {items : Array Value} {xs : List Str} {Q : Value → Shared → Prop}
    (hh : A.handled = none) (hl : s.heap.IsTuple l items) (hi : StrsAre items.toList xs) (hb : xs.length + 1 < scanBound)
    (h : ∀ (h' : Heap) (tk : Nat), SetS prog w h' s.heap.objs.size (fun k' => (dd xs).any (· == k')) (dd xs).length →
      (∀ b o, b < s.heap.objs.size → s.heap.get? b = some o → h'.get? b = some o) → Q (.ref s.heap.objs.size) { s with heap := h', toks := tk }) :
    wpAny (model prog w) A (call (.type "set") [.ref l]) Q E s := by
  have hsz : xs.length = items.size := by rw [← StrsAre.len_eq hi, Array.length_toList]
  obtain ⟨ol, hol, hcl, nl, hdl⟩ := hl
  obtain ⟨ocls, odict, odata, oslots⟩ := ol
  simp only at hcl hdl
  subst hcl hdl
  obtain ⟨c, tl, hmro⟩ := PySem.F.called_set.mro
  have hmade := PySem.F.called_set.made
  have hsub := PySem.F.called_set.sub
  refine wpAny_call (codeAny_of_tree ?_)
  show wpAny _ _ (callAny (.type "set") _) _ _ _
  refine wpAny_pure ⟨Code.quiet_builtin _ (by decide +kernel), codeAny_builtin PySem.F.entry_type_call ?_⟩
  rw [Around.under_plain (weight_type_call_type "set" [.ref l] []) rfl]
  have h1 := PySem.F.called_set.notType
  have h2 := PySem.F.called_set.canCreate
  have hct := PySem.F.typeCall_set_1 (.ref l)
  repeat (any_goals (first | assumption | wp_step))
  generalize hled : (!w.params.followText "set-order") = led
  refine codeAny_mono (code_newS (.ref l) (E := E) (Q₁ := fun obj s₁ => obj = .ref s.heap.objs.size ∧ s₁ = { s with heap := s.heap.push { cls := .type "set", dict := none, data := .set #[] 0 (.fresh 0 0 led) } }) (by rw [hled]; exact ⟨rfl, rfl⟩)) fun r s₁ hr => ?_
  rcases r with e | fl
  · exact hr
  rcases fl with _ | _ | _ | obj <;> try exact hr.elim
  obtain ⟨rfl, rfl⟩ := hr
  have hS : (s.heap.push { cls := .type "set", dict := none, data := .set #[] 0 (.fresh 0 0 led) }).get? s.heap.objs.size = some { cls := .type "set", dict := none, data := .set #[] 0 (.fresh 0 0 led) } := Heap.get?_push_size _ rfl
  have hT : Shared.TypeIs { s with heap := s.heap.push { cls := .type "set", dict := none, data := .set #[] 0 (.fresh 0 0 led) } } (.ref s.heap.objs.size) "set" := ⟨_, hS, rfl⟩
  have hli := PySem.F.called_set.init.lookup
  have hbi := PySem.F.called_set.init.bind (.ref s.heap.objs.size)
  repeat (any_goals (first | assumption | wp_step))
  refine codeAny_mono (codeAny_call_builtin (R := wants (fun r s₂ => r = .none ∧ ∃ h' tk, s₂ = { s with heap := h', toks := tk } ∧
      SetS prog w h' s.heap.objs.size (fun k' => (dd xs).any (· == k')) (dd xs).length ∧
      (∀ b o, b < s.heap.objs.size → s.heap.get? b = some o → h'.get? b = some o)) E) PySem.F.called_set.init.plain PySem.F.entry_set_init (check_set_init_1 hT ?_)) fun r₂ s₂ hr₂ => ?_
  · have hol' : (s.heap.push { cls := .type "set", dict := none, data := .set #[] 0 (.fresh 0 0 led) }).get? l = some { cls := .type "tuple", dict := odict, data := .seq items nl, slots := oslots } := Heap.get?_push_of_some _ hol
    have hsls := PySem.F.sub_tuple_set
    have hslf := PySem.F.sub_tuple_frozenset
    have hne : (Value.type "tuple" == Value.type "dict") = false := by decide
    have hl1 : (s.heap.push { cls := .type "set", dict := none, data := .set #[] 0 (.fresh 0 0 led) }).IsTuple l items := ⟨_, hol', rfl, nl, rfl⟩
    unfold Builtin.«set.__init__» noKeywords Builtin.Frozenset.updateFrom
    generalize hPI : pyIter = PI
    wp_walk
    subst hPI
    refine wpAny_pyIter_tuple hl1 ?_
    refine wpAny_bind (wpAny_runValue ?_)
    have hlS : l < s.heap.objs.size := Heap.lt_size hol
    have hh3 : A.in1.in1.in1.handled = none := by simp [hh]
    have hneI : l ≠ (s.heap.push { cls := .type "set", dict := none, data := .set #[] 0 (.fresh 0 0 led) }).objs.size := by
      rw [Heap.size_push]; exact Nat.ne_of_lt (Nat.lt_succ_of_lt hlS)
    have hSf : s.heap.objs.size ∉ [(s.heap.push { cls := .type "set", dict := none, data := .set #[] 0 (.fresh 0 0 led) }).objs.size, l] := by
      rw [Heap.size_push]; simp only [List.mem_cons, List.mem_singleton, List.not_mem_nil, or_false, not_or]
      exact ⟨Nat.ne_of_lt (Nat.lt_succ_self _), Nat.ne_of_gt hlS⟩
    have hval : ∀ (i : Nat) (v : Value), items[i]? = some v → ∃ t, v = .str (xs.getD i Str.empty) t := fun i v hv => SS.strs_at hi i v (by rw [Array.getElem?_toList]; exact hv)
    have hF : SetS prog w ((s.heap.push { cls := .type "set", dict := none, data := .set #[] 0 (.fresh 0 0 led) }).push { cls := .type "tuple_iterator", data := .fields #[.ref l, .int 0 0] }) s.heap.objs.size (fun _ => false) 0 := by
      rw [← hled]
      obtain ⟨o, es, ep, t, ho, rest⟩ := SetS.fresh (prog := prog) (w := w) (h := s.heap)
      exact ⟨o, es, ep, t, Heap.get?_push_of_some _ ho, rest⟩
    refine loopS ((Walks.tuple hh3 _ l hneI items).toS) s.heap.objs.size hSf xs hsz (by rw [← hsz]; exact hb) hval (items.size - 0) 0 _ (by omega) (Nat.zero_le _)
      ⟨⟨_, Heap.get?_push_size _ rfl, rfl, rfl⟩, ⟨_, Heap.get?_push_of_some _ hol', rfl, nl, rfl⟩⟩
      (hF.congr (fun _ => rfl) rfl) ?_
    intro s' hm hS'
    rw [← hsz, List.take_length] at hS'
    obtain ⟨h', g', d', tk', os'⟩ := s'
    have eg : g' = s.gens := hm.gens
    have ed : d' = s.drawn := hm.drawn
    have eo : os' = s.os := hm.os
    subst eg ed eo
    show wpAny _ _ _ _ _ _
    refine wpAny_pure ?_
    show wpAny _ _ (ret Value.none) _ _ _
    refine wpAny_pure ⟨rfl, h', tk', rfl, hS', fun b o hb e => ?_⟩
    have hb1 : b ≠ s.heap.objs.size := Nat.ne_of_lt hb
    have hb2 : b ≠ (s.heap.push { cls := .type "set", dict := none, data := .set #[] 0 (.fresh 0 0 led) }).objs.size := by
      rw [Heap.size_push]; exact Nat.ne_of_lt (Nat.lt_succ_of_lt hb)
    exact hm.heap b o (by simp only [List.mem_cons, List.mem_singleton, List.not_mem_nil, or_false, not_or]; exact ⟨hb1, hb2⟩) (Heap.get?_push_of_some _ (Heap.get?_push_of_some _ e))
  · rcases r₂ with e | fl₂
    · exact hr₂
    rcases fl₂ with _ | _ | _ | r <;> try exact hr₂.elim
    obtain ⟨rfl, h', tk, rfl, hS', hk'⟩ := hr₂
    repeat (any_goals (first | assumption | wp_step))
    exact h _ _ hS' hk'

theorem sorted_setS {a : Addr} {xs : List Str} {Q : Value → Shared → Prop} (R : SetS prog w s.heap a (fun k => (dd xs).any (· == k)) (dd xs).length) (hh : A.handled = none)
    (hQ : ∀ s' p (out : Array Value) (c : Nat) (ys : List Str), (∀ b o, s.heap.get? b = some o → s'.heap.get? b = some o) → s'.gens = s.gens → s'.os = s.os → s.heap.objs.size ≤ p →
      s'.heap.get? p = some (seqObj "list" out c) → StrsAre out.toList ys → ys.Perm (dd xs) → sortedS ys = true → Q (.ref p) s') :
    wpAny (model prog w) A (call (.builtin "sorted") [.ref a]) Q E s := by
  obtain ⟨o, es, ep, t, ho, hex, hd, hel, hm, hb, hf, hn, hr, hl⟩ := R
  refine Calls.call_function_entry kind_sorted plain_sorted entry_sorted (args_sorted1 _) ?_
  unfold Builtin.«sorted»
  refine wpAny_bind (m := checkCount "sorted" 1 1 _) (wpAny_pure ?_)
  refine wpAny_bind (collect_set (A := A.in1) hh ⟨o, ho, hex.1, hd⟩ hf hb hr hl fun s1 vs k1 hz g1 o1 pm => ?_)
  have hvl : vs.length = (dd xs).length := by rw [pm.length_eq, List.length_map, Array.length_toList]; exact hn
  have hst : ∀ v ∈ vs, ∃ z tk, v = Value.str z tk ∧ z ∈ dd xs := fun v hv => by
    obtain ⟨e, he, q⟩ := List.mem_map.mp (pm.mem_iff.mp hv)
    obtain ⟨⟨k, hk, _⟩, _⟩ := hel e he
    obtain ⟨tk, h1⟩ := Value.isStrOf_shape hk
    refine ⟨k, tk, by rw [← q]; exact h1, ?_⟩
    have := (hm k).mpr ⟨e, he, hk⟩
    obtain ⟨j, hj, ej⟩ := List.any_eq_true.mp this
    rw [← eq_of_beq ej]
    exact hj
  have hI : StrsAre vs (vs.map tx) := strs_tx fun v hv => by obtain ⟨z, tk, e, _⟩ := hst v hv; exact ⟨z, tk, e⟩
  have hin : ∀ k ∈ dd xs, k ∈ vs.map tx := fun k hk => by
    obtain ⟨e, he, q⟩ := (hm k).mp (List.any_eq_true.mpr ⟨k, hk, by simp⟩)
    obtain ⟨tk, h1⟩ := Value.isStrOf_shape q
    exact List.mem_map.mpr ⟨e.2, pm.mem_iff.mpr (List.mem_map.mpr ⟨e, he, rfl⟩), by rw [h1]; rfl⟩
  have hp2 : (dd xs).Perm (vs.map tx) := perm_of_sub (dd_nd xs) hin (by rw [List.length_map, hvl]; exact Nat.le_refl _)
  have hL : vs.length ≤ sizeLine := by
    rw [pm.length_eq, List.length_map, Array.length_toList]
    exact fits_of_scanBound hb
  refine wpAny_bind (wpAny_newList ?_ hL)
  have hoL : (s1.heap.push (seqObj "list" vs.toArray 0)).get? s1.heap.objs.size = some (seqObj "list" vs.toArray 0) := Heap.get?_push_size _ rfl
  refine wpAny_bind (wpAny_holding (wpAny_call_entry slot_list_sort ⟨_, hoL, rfl⟩ entry_list_sort (list_sort_treeKAny strKind_oneLt hoL hI.keysOf (fun v₁ v₂ rest e => keyKind_strs (by rw [← e]; exact hI)) hL fun st' a1 a2 => ⟨_, rfl, ?_⟩) (args_list_sort _)))
  obtain ⟨ys, h1, h2, h3⟩ := sorted_out_str hI a1 a2
  obtain ⟨c, hc⟩ := sortedHeap_at (vs := vs) (out := (arrOf st').map (·.2)) hoL
  refine wpAny_pure ⟨_, rfl, hQ _ s1.heap.objs.size _ c ys (fun b u e => ?_) g1 o1 hz hc h1 (h2.trans hp2.symm) h3⟩
  have q := k1 b u e
  have hlt := Heap.lt_size q
  show (sortedHeap (s1.heap.push (seqObj "list" vs.toArray 0)) s1.heap.objs.size vs _).get? b = some u
  rw [sortedHeap_old (Nat.ne_of_lt hlt) (by rw [size_push']; exact Nat.lt_succ_of_lt hlt)]
  exact Heap.get?_push_of_some _ q
end
section
variable {X : Cx} {F : Hp} {γ : Gm} {pos : Pos}
def tSortSet (K : PySem.W.Frag) (ta : TE) : TE := fun σ H Q => ta σ H fun x H1 => ∃ l, ∃ xs : List Str, x = .ref l ∧ (SqL K H1 l (xs.map V.str) ∨ SqT K H1 l (xs.map V.str)) ∧ xs.length ≤ 4000 ∧
  ∀ (ys : List Str) (p : Addr), ys.Perm (dd xs) → sortedS ys = true → H1 p = none → Q (.ref p) (upd H1 p (.lst (ys.map V.str)))
theorem pe_sortSet {a : Expr} {ta : TE} {p p2 q : Pos} (hc : X.calm = true) (hg : Gl X "sorted") (hm : X.mg "sorted" = none) (hg2 : Gl X "set") (hm2 : X.mg "set" = none) (ha : PE X a ta)
    (na : starEach [a] X.env = (false, eval a X.env) :: starEach [] X.env := by rfl) : PE X (.Call (.Name "sorted" p) [.Call (.Name "set" p2) [a] [] q] [] pos) (tSortSet X.K ta) := by
  refine ⟨fun pins s σ H Q I h => ?_⟩
  refine Call_ (ld_blt I hg hm boot_sorted ?_)
  refine PyProof.Rows.callWith_builtin1 (PyProof.Rows.args_cons ?_ rfl) rfl rfl
  refine Call_ (ld_blt I hg2 hm2 boot_set ?_)
  refine PyProof.Rows.callWith_type1 (PyProof.Rows.args_cons (thn (ha.run pins s σ H _ I h) fun v s1 ⟨x, H1, I1, r1, q1⟩ => PyProof.Rows.args_nil ?_) na) na rfl
  obtain ⟨l, xs, rfl, hq, h1, q1⟩ := q1
  cases r1
  have fin : ∀ (h' : Heap) (tk : Nat), SetS X.prog X.w h' s1.heap.objs.size (fun k' => (dd xs).any (· == k')) (dd xs).length → (∀ b o, b < s1.heap.objs.size → s1.heap.get? b = some o → h'.get? b = some o) →
      ∀ (A' : Around) (E' : Value → Shared → Prop), A'.handled = none → wpAny (model X.prog X.w) A' (call (.builtin "sorted") [.ref s1.heap.objs.size]) (EP X pins σ Q) E' { s1 with heap := h', toks := tk } := fun h' tk hS hk A' E' hA => by
    have I2 : Inv X pins σ H1 { s1 with heap := h', toks := tk } := I1.kept (t' := tk) fun b o e => hk b o (Heap.lt_size e) e
    refine sorted_setS (s := { s1 with heap := h', toks := tk }) hS hA fun s' p out c ys k g o hp hg hi hperm hs => ?_
    have hn : H1 p = none := I2.hok.fresh hp
    have hlen : (ys.map V.str).length ≤ sizeLine := by
      have := dd_len_le xs
      have hz : sizeLine = 16777216 := rfl
      rw [List.length_map, hperm.length_eq]
      omega
    have J : Inv X pins σ (upd H1 p (.lst (ys.map V.str))) { ({ s1 with heap := h', toks := tk } : Shared) with heap := s'.heap, gens := s'.gens, drawn := s'.drawn, toks := s'.toks } :=
      I2.call (ch := []) (Un.laid k hp hn) (I2.hok.laid k hp ⟨hlen, out.toList, c, vals_of_strs hi, hg⟩) (by rw [g]; exact I2.bare) (fun _ z => nomatch z)
    have e : s' = { ({ s1 with heap := h', toks := tk } : Shared) with heap := s'.heap, gens := s'.gens, drawn := s'.drawn, toks := s'.toks } := by
      cases s'
      cases s1
      cases o
      rfl
    rw [e]
    exact ⟨.ref p, _, J, rfl, q1 ys p hperm hs hn⟩
  rcases hq with hq | hq
  · obtain ⟨its, r, pl, hz⟩ := I1.list hq
    refine set_listS (I1.ok.hd hc) pl.isList (by simpa using L2.strsAre_of r) (by unfold scanBound; omega) fun h' tk hS hk => ?_
    exact PyProof.Rows.args_nil (fin h' tk hS hk _ _ (I1.ok.hd hc))
  · obtain ⟨its, r, pl, hz⟩ := I1.tuple hq
    refine set_tupS (I1.ok.hd hc) pl (by simpa using L2.strsAre_of r) (by unfold scanBound; omega) fun h' tk hS hk => ?_
    exact PyProof.Rows.args_nil (fin h' tk hS hk _ _ (I1.ok.hd hc))
/-- sorted(set(xs)), xs a list or tuple of texts -/
def wSortSet (we : WE) : WE := fun env c P => we env c fun d c1 => ∃ ds zs, (d = .lst ds ∨ d = .tup ds) ∧ D.strs ds = some zs ∧ zs.length ≤ 4000 ∧ ∀ ys, ys.Perm (dd zs) → sortedS ys = true → P (.lst (ys.map .str)) c1
theorem dSortSet {we : WE} {x : Expr} {p p2 q : Pos} (hx : PE X x (tG X.K F γ we)) (hm : X.mg "sorted" = none) (hm2 : X.mg "set" = none) (hg : Gl X "sorted" := by rfl) (hg2 : Gl X "set" := by rfl) (hc : X.calm = true := by rfl)
    (na : starEach [x] X.env = (false, eval x X.env) :: starEach [] X.env := by rfl) : PE X (.Call (.Name "sorted" p) [.Call (.Name "set" p2) [x] [] q] [] pos) (tG X.K F γ (wSortSet we)) := PE.imp (pe_sortSet hc hg hm hg2 hm2 hx na) fun σ H Q h => by
  obtain ⟨H0, env, c, P, R, q, k⟩ := h
  exact ⟨H0, env, c, _, R, q, fun d c1 v H1 H01 ⟨ds, zs, e, es, z1, q1⟩ ss R1 h1 => by
    rcases e with e | e
    · subst e
      cases h1 with
      | lst a1 a2 => exact ⟨_, zs, rfl, .inl (by rw [← strs_of a2 es]; exact SqL.of (R1.core.sub _ _ a1)), z1, fun ys p hp hs hn => k _ _ _ _ (upd H01 p (.lst (ys.map V.str))) (q1 ys hp hs) (ss.trans (Same.new (R1.core.sub.free hn))) (R1.alloc hn) (.lst upd_same (strs_has ys))⟩
    · subst e
      cases h1 with
      | tup a1 a2 => exact ⟨_, zs, rfl, .inr (by rw [← strs_of a2 es]; exact SqT.of (R1.core.sub _ _ a1)), z1, fun ys p hp hs hn => k _ _ _ _ (upd H01 p (.lst (ys.map V.str))) (q1 ys hp hs) (ss.trans (Same.new (R1.core.sub.free hn))) (R1.alloc hn) (.lst upd_same (strs_has ys))⟩⟩
/-- sorted(set(xs)) of a plain list of texts -/
theorem sortSet_S {ls A : List (List Bool)} {P : D → Prop} (hp : ls.Nodup) (hpA : ls.Perm A) (hA : asc A) (k : P (.lst (A.map fun l => .str (S l)))) : ∀ ys : List Str, ys.Perm (dd (ls.map S)) → sortedS ys = true → P (.lst (ys.map .str)) := fun ys h1 h2 => by
  have hn : (ls.map S).Nodup := by
    rw [List.nodup_iff_pairwise_ne, List.pairwise_map]
    exact hp.imp fun {a b} n e => n (S_inj e)
  rw [dd_of_nodup hn] at h1
  have := sorted_asc (h1.trans (hpA.map S)) h2 hA
  rw [this, List.map_map]
  exact k
end
end L2.DL

set_option Elab.async false
set_option linter.all false
set_option autoImplicit false
set_option maxRecDepth 100000
/-! sorted of a list or of a tuple of texts. -/
namespace L2.DL
open PySem PySem.Spec PyProof.Rows
section
variable {prog : Program} {w : World} {A : Around} {E : Value → Shared → Prop} {s : Shared}
theorem collect_tupS {Q : List Value → Shared → Prop} (it : Addr) {o : Obj} {items : Array Value} {n : Nat}
    (ho : s.heap.get? it = some o) (hc : o.cls = .type "tuple") (hd : o.data = .seq items n) (hsz : items.size ≤ sizeLine)
    (hQ : ∀ h', (∀ b o', s.heap.get? b = some o' → h'.get? b = some o') → s.heap.objs.size ≤ h'.objs.size → Q items.toList { s with heap := h' }) :
    wpAny (model prog w) A (collect (.ref it)) Q E s := by
  unfold collect
  refine wpAny_bind (wpAny_runValue (codeAny_builtin PySem.F.entry_proto_collect ?_))
  rw [Around.under_plainId PySem.F.plain_proto_collect _]
  show wpAny _ A.in1 (newList [] >>= fun l => again (.builtin "list.__iadd__" ⟨[l, .ref it], []⟩)) _ _ s
  refine wpAny_bind (wpAny_newObj_type ?_)
  refine wpAny_pure ⟨plainId_quiet PySem.F.plain_list_iadd _, codeAny_builtin PySem.F.entry_list_iadd ?_⟩
  rw [Around.under_plainId PySem.F.plain_list_iadd _]
  show wpAny _ A.in1 (Builtin.List.listExtendWith (.ref s.heap.objs.size) (.ref it) (.ref s.heap.objs.size)) _ _ _
  have hS : (s.heap.push { cls := .type "list", data := .seq ([] : List Value).toArray }).get? s.heap.objs.size = some { cls := .type "list", data := .seq #[] 0 } := Heap.get?_push_size _ rfl
  have hS₂ := Heap.get?_update_self (Obj.mapSeq (· ++ items)) hS rfl
  have fin' : wpAny (model prog w) A (match Value.ref s.heap.objs.size with
      | Value.ref a => do
        match (← load a).data with
          | Data.seq xs _ => pure xs.toList
          | _ => unsupported "internal:collect"
      | _ => unsupported "internal:collect") Q E { s with heap := (s.heap.push { cls := .type "list", data := .seq ([] : List Value).toArray }).update s.heap.objs.size (Obj.mapSeq (· ++ items)) } := by
    show wpAny _ A (load s.heap.objs.size >>= _) _ _ _
    refine wpAny_bind (wpAny_load hS₂ ?_)
    refine wpAny_pure ?_
    have e : ((#[] : Array Value) ++ items).toList = items.toList := by simp
    show Q ((#[] : Array Value) ++ items).toList _
    rw [e]
    refine hQ _ (fun b o' hb => ?_) (by rw [Heap.size_update, size_push']; exact Nat.le_succ _)
    exact (Heap.get?_update_other _ _ (Nat.ne_of_gt (Heap.lt_size hb))).trans (Heap.get?_push_of_some _ hb)
  refine wpAny_mono (wpAny_extend_seq (hsz := hsz) (A := A) (R := fun r s' => r = .ok (.ret (.ref s.heap.objs.size)) ∧ s' = { s with heap := (s.heap.push { cls := .type "list", data := .seq ([] : List Value).toArray }).update s.heap.objs.size (Obj.mapSeq (· ++ items)) })
    (s := { s with heap := s.heap.push { cls := .type "list", data := .seq ([] : List Value).toArray } }) _ it _ 0 (.inr rfl) hS (Heap.get?_push_of_some _ ho) hc hd ⟨rfl, rfl⟩) (fun fin s' h => ?_) (fun e s' h => ?_)
  · cases fin with
    | done f =>
      obtain ⟨e, rfl⟩ := h
      cases e
      exact fin'
    | again c' => exact ⟨h.1, codeAny_mono h.2 fun r s'' hr => by obtain ⟨rfl, rfl⟩ := hr; exact fin'⟩
  · exact absurd h.1 (by simp)
theorem sorted_tupS {a : Addr} {items : Array Value} {xs : List Str} {Q : Value → Shared → Prop} (ht : s.heap.IsTuple a items) (hi : StrsAre items.toList xs) (hsz : items.size ≤ sizeLine)
    (hQ : ∀ s' p (out : Array Value) (c : Nat) (ys : List Str), (∀ b o, s.heap.get? b = some o → s'.heap.get? b = some o) → s'.gens = s.gens → s'.os = s.os → s.heap.objs.size ≤ p →
      s'.heap.get? p = some (seqObj "list" out c) → StrsAre out.toList ys → ys.Perm xs → sortedS ys = true → Q (.ref p) s') :
    wpAny (model prog w) A (call (.builtin "sorted") [.ref a]) Q E s := by
  obtain ⟨o, ho, hc, n, hd⟩ := ht
  refine Calls.call_function_entry kind_sorted plain_sorted entry_sorted (args_sorted1 _) ?_
  unfold Builtin.«sorted»
  refine wpAny_bind (m := checkCount "sorted" 1 1 _) (wpAny_pure ?_)
  refine wpAny_bind (collect_tupS a ho hc hd hsz fun h1 k1 hz => ?_)
  have hL : items.toList.length ≤ sizeLine := by rw [Array.length_toList]; exact hsz
  refine wpAny_bind (wpAny_newList ?_ hL)
  have hoL : (h1.push (seqObj "list" items.toList.toArray 0)).get? h1.objs.size = some (seqObj "list" items.toList.toArray 0) := Heap.get?_push_size _ rfl
  refine wpAny_bind (wpAny_holding (wpAny_call_entry slot_list_sort ⟨_, hoL, rfl⟩ entry_list_sort (list_sort_treeKAny strKind_oneLt hoL hi.keysOf (fun v₁ v₂ rest e => keyKind_strs (by rw [← e]; exact hi)) hL fun st' a1 a2 => ⟨_, rfl, ?_⟩) (args_list_sort _)))
  obtain ⟨ys, q1, q2, q3⟩ := sorted_out_str hi a1 a2
  obtain ⟨c, hc⟩ := sortedHeap_at (vs := items.toList) (out := (arrOf st').map (·.2)) hoL
  refine wpAny_pure ⟨_, rfl, hQ _ h1.objs.size _ c ys (fun b u e => ?_) rfl rfl hz hc q1 q2 q3⟩
  have q := k1 b u e
  have hlt := Heap.lt_size q
  show (sortedHeap (h1.push (seqObj "list" items.toList.toArray 0)) h1.objs.size items.toList _).get? b = some u
  rw [sortedHeap_old (Nat.ne_of_lt hlt) (by rw [size_push']; exact Nat.lt_succ_of_lt hlt)]
  exact Heap.get?_push_of_some _ q
end
section
variable {X : Cx} {F : Hp} {γ : Gm} {pos : Pos}
def rSortedT (K : PySem.W.Frag) : List V → Hp → VK → Prop := fun vs H Q => ∃ (a : Addr) (xs : List Str), vs = [V.ref a] ∧ SqT K H a (xs.map V.str) ∧
  ∀ (ys : List Str) (p : Addr), ys.Perm xs → sortedS ys = true → H p = none → Q (.ref p) (upd H p (.lst (ys.map V.str)))
theorem cr_sortedTS : CallR X (.builtin "sorted") (rSortedT X.K) := by
  intro pins s σ H vs us Q I r h
  obtain ⟨a, xs, rfl, hs, q⟩ := h
  obtain ⟨its, rv, hl, hz⟩ := I.tuple hs
  rw [Vals.ref1 r]
  have hlen0 := rv.length
  rw [List.length_map] at hlen0 hz
  refine sorted_tupS hl (by simpa using L2.strsAre_of rv) (by simp; omega) fun s' p out c ys k g o hp hg hi hperm hs => ?_
  have hn : H p = none := I.hok.fresh hp
  have hlen : (ys.map V.str).length ≤ sizeLine := by rw [List.length_map, hperm.length_eq]; exact hz
  have J : Inv X pins σ (upd H p (.lst (ys.map V.str))) { s with heap := s'.heap, gens := s'.gens, drawn := s'.drawn, toks := s'.toks } :=
    I.call (ch := []) (Un.laid k hp hn) (I.hok.laid k hp ⟨hlen, out.toList, c, vals_of_strs hi, hg⟩) (by rw [g]; exact I.bare) (fun _ z => nomatch z)
  have e : s' = { s with heap := s'.heap, gens := s'.gens, drawn := s'.drawn, toks := s'.toks } := by
    cases s'
    cases s
    cases o
    rfl
  rw [e]
  exact ⟨.ref p, _, J, rfl, q ys p hperm hs hn⟩
/-- sorted of a list, or of a tuple of texts -/
def sortXD : D1
  | .lst ds, P => sortD (.lst ds) P
  | .tup ds, P => ∃ zs, D.strs ds = some zs ∧ ∀ ys, ys.Perm zs → sortedS ys = true → P (.lst (ys.map .str))
  | _, _ => False
theorem b_sortedX : CallD X F γ (.builtin "sorted") (one sortXD) := by
  intro H0 H σ env c xs ds k Q R h hf hk
  obtain ⟨x, d, rfl, rfl, hx, q⟩ := one_inv h hf
  cases hx with
  | @lst a xs ds h1 h2 =>
    have q1 : sortD (.lst ds) k := by unfold sortXD at q; exact q
    have q2 : one sortD [.lst ds] k := ⟨_, rfl, q1⟩
    exact b_sorted H0 H σ env c _ _ k Q R (.cons (.lst h1 h2) .nil) q2 hk
  | tup h1 h2 =>
    obtain ⟨zs, e, q⟩ := (show ∃ zs, _ ∧ _ from q)
    refine ⟨_, cr_sortedTS, _, zs, rfl, by rw [← strs_of h2 e]; exact SqT.of (R.core.sub _ _ h1), fun ys p a b hp => ?_⟩
    exact hk _ _ _ _ (q ys a b) (Same.new (R.core.sub.free hp)) (R.alloc hp) (.lst upd_same (strs_has ys))
  | _ => exact (show False from q).elim
end
theorem sortX_S {ls A : List (List Bool)} {P : D → Prop} (hp : ls.Perm A) (hA : asc A) (k : P (.lst (A.map fun l => .str (S l)))) : sortXD (.lst (ls.map fun l => .str (S l))) P := sortD_S hp hA k
theorem sortX_T {ls A : List (List Bool)} {P : D → Prop} (hp : ls.Perm A) (hA : asc A) (k : P (.lst (A.map fun l => .str (S l)))) : sortXD (.tup (ls.map fun l => .str (S l))) P := by
  refine ⟨_, strs_S ls, fun ys h1 h2 => ?_⟩
  have := sorted_asc (h1.trans (hp.map S)) h2 hA
  rw [this, List.map_map]
  exact k
end L2.DL

set_option Elab.async false
set_option linter.all false
set_option autoImplicit false
set_option maxRecDepth 100000
/-! min of two ints. -/
namespace L2.DL
open PySem PySem.Spec PyProof.Rows
section
variable {X : Cx} {F : Hp} {γ : Gm} {pos : Pos}
def minI2 : DA := fun ds P => ∃ i j : Int, ds = [.int i, .int j] ∧ P (.int (if j < i then j else i))
theorem minI2_i {i j : Int} {P : D → Prop} (h : P (.int (if j < i then j else i))) : minI2 [.int i, .int j] P := ⟨i, j, rfl, h⟩
theorem b_min2 (hc : X.calm = true) : CallD X F γ (.builtin "min") minI2 := by
  intro H0 H σ env c xs ds k Q R h hf hk
  obtain ⟨i, j, rfl, q⟩ := hf
  cases h with
  | cons h1 h2 =>
    cases h1
    cases h2 with
    | cons h3 h4 =>
      cases h3
      cases h4
      exact ⟨_, call_min2 hc, i, j, rfl, hk _ _ _ _ q (Same.refl _) R (.int _)⟩
end
end L2.DL

set_option Elab.async false
set_option linter.all false
set_option autoImplicit false
set_option maxRecDepth 100000
/-! xs.index(y), xs a list. -/
namespace L2.DL
open PySem PySem.Spec PyProof.Rows
theorem ps_at : ∀ (ds : List D) (j : Nat), (D.ps ds)[j]? = (ds[j]?).map D.p
  | [], j => by simp [D.ps]
  | d :: ds, 0 => by simp [D.ps]
  | d :: ds, j + 1 => by
    show (D.p d :: D.ps ds)[j + 1]? = _
    rw [List.getElem?_cons_succ, List.getElem?_cons_succ, ps_at ds j]
section
variable {X : Cx} {F : Hp} {γ : Gm} {pos : Pos}
def wIndex (wo wa : WE) : WE := fun env c P => wo env c fun o c1 => ∃ ds, o = .lst ds ∧ wa env c1 fun d c2 => (D.lst ds).deepOk = true ∧ d.deepOk = true ∧ ∃ (j : Nat) (y : D), ds[j]? = some y ∧ D.eqb y d = true ∧ (∀ (m : Nat) (y' : D), m < j → ds[m]? = some y' → D.eqb y' d = false) ∧ P (.int (j : Nat)) c2
theorem dIndex {o e : Expr} {wo wa : WE} {apos cpos : Pos} (hu : X.A.units + 65 < cLine) (ho : PE X o (tG X.K F γ wo)) (ha : PE X e (tG X.K F γ wa))
    (hbase : attributeBase o "index" X.env (eval o X.env) = eval o X.env := by rfl)
    (hfew : ((backTo cpos (starEach [e] X.env)).all (fun x => !x.1) && (backToKw cpos (keywordEach [] X.env)).all (fun x => x.1.isSome)
      && decide ([e].length + ([] : List Keyword).length + (if ([] : List Keyword).isEmpty then 0 else 1) < 30)) = true := by rfl)
    (hline : (apos.endLine == cpos.line) = true := by rfl) (hs : starEach [e] X.env = (false, eval e X.env) :: starEach [] X.env := by rfl) (hplain : (backTo cpos (starEach [] X.env)).any (·.1) = false := by rfl) :
    PE X (.Call (.Attribute o "index" apos) [e] [] cpos) (tG X.K F γ (wIndex wo wa)) :=
  PE.imp (pe_bm PySem.F.plainAttrs_list PySem.F.slot_list_index PySem.F.type_list_index (mt_indexD hu) ho (pa_cons ha pa_nil hs) hbase hfew hline hs hplain) fun σ H Q h => by
  obtain ⟨H0, env, c, P, R, q, k⟩ := h
  refine ⟨H0, env, c, _, R, q, fun d c1 v H1 H01 ⟨ds, ez, q1⟩ s1 R1 h1 => ?_⟩
  subst ez
  cases h1 with
  | @lst a xs _ a1 a2 =>
    refine ⟨.inl ⟨rfl, _, SqL.of (R1.core.sub _ _ a1)⟩, H01, env, c1, _, R1, q1, fun d2 c2 v2 H2 H02 ⟨f1, f2, j, y, hy, hj, hno, q2⟩ s2 R2 h2 => ?_⟩
    unfold D.deepOk at f1 f2
    rw [Bool.and_eq_true] at f1 f2
    have hl : Has X.K H02 (.ref a) (.lst ds) := Has.mono s2 (.lst a1 a2)
    refine ⟨a, v2, d2.p, D.ps ds, j, y.p, rfl, rfl, hl.dp R2.core.sub _ _ f1.1, h2.dp R2.core.sub _ _ f2.1, f1.2, f2.2, by rw [ps_at, hy]; rfl, hj, fun m z' hm hz => ?_, k _ _ _ _ _ q2 (s1.trans s2) R2 (.int _)⟩
    rw [ps_at] at hz
    cases hd : ds[m]? with
    | none => rw [hd] at hz; cases hz
    | some y' =>
      rw [hd] at hz
      cases hz
      exact hno m y' hm hd
end
/-- xs.extend(ys), xs of slot i, ys a tuple -/
theorem extendT (l b : Addr) (its its2 : Array Value) (n : Nat) (hz : its.size + its2.size ≤ sizeLine) : Meets (Builtin.«list.extend» ⟨[.ref l, .ref b], []⟩)
    (fun _ R s => s.heap.get? l = some { cls := .type "list", data := .seq its n } ∧ (∃ (o : Obj) (n2 : Nat), s.heap.get? b = some o ∧ o.cls = .type "tuple" ∧ o.data = .seq its2 n2) ∧
      R (.ok (.ret .none)) { s with heap := s.heap.update l (Obj.mapSeq (· ++ its2)) }) :=
  .of_wp fun prog w A R s h => by
    obtain ⟨hl, ⟨o, n2, ho, hc, hd⟩, h⟩ := h
    have hlong : (!its.isEmpty && Builtin.List.listTooLong (its.size + its2.size)) = false := by rw [notLongL hz, Bool.and_false]
    show wpAny _ _ (Builtin.List.listExtendWith (.ref l) (.ref b) .none) _ _ s
    unfold Builtin.List.listExtendWith
    refine wpAny_bind (wpAny_typeOf ⟨o, ho, hc⟩ ?_)
    have h1 : (Builtin.List.listSameRef (.ref l) (.ref b) || Value.type "tuple" == Value.type "list" || Value.type "tuple" == Value.type "tuple") = true := by simp
    simp only [h1, if_true]
    refine wpAny_bind ?_
    unfold Builtin.List.listItems
    refine wpAny_bind (wpAny_seqItems ho hd (wpAny_pure ?_))
    refine wpAny_bind ?_
    refine wpAny_bind (wpAny_seqItems hl rfl (wpAny_pure ?_))
    simp only [hlong]
    show wpAny _ _ (updateSeq l (· ++ its2) >>= fun _ => ret Value.none) _ _ s
    refine wpAny_bind (wpAny_updateSeq hl rfl ?_ (by omega) (by rw [Array.size_append]; omega))
    exact wpAny_pure ⟨_, rfl, h⟩
section
variable {X : Cx} {F : Hp} {γ : Gm} {pos : Pos}
def rExtT (K : PySem.W.Frag) : V → List V → Hp → VK → Prop := fun x vs H Q => ∃ l b xs zs, x = .ref l ∧ vs = [.ref b] ∧ H l = some (.lst xs) ∧ SqT K H b zs ∧ xs.length + zs.length ≤ sizeLine ∧ Q .non (upd H l (.lst (xs ++ zs)))
theorem mt_extendT : MtM X "list.extend" (rExtT X.K) := by
  intro pins s σ H x vs v us Q I rx rv h
  obtain ⟨l, b, xs, zs, rfl, rfl, hH, hB, hz, q⟩ := h
  cases rx
  obtain ⟨u, rfl, ru⟩ := rv.one
  cases ru
  obtain ⟨z, its, n, r, hl, e⟩ := I.lstM hH
  obtain ⟨its2, r2, ⟨o, ho, hc, n2, hd⟩, z2⟩ := I.tuple hB
  have hl2 := r2.length
  refine call_meets PySem.F.slot_list_extend ⟨_, e, rfl⟩ PySem.F.entry_list_extend (PySem.F.args_list_extend_2 _ _)
    (extendT l b its.toArray its2.toArray n (by rw [List.size_toArray, List.size_toArray]; omega)) ⟨e, ⟨o, n2, ho, hc, hd⟩, ?_⟩
  refine ⟨.non, _, I.lset (its' := its ++ its2) hH e (by simp) (r.append r2) ?_, rfl, q⟩
  rw [List.length_append]
  omega
def wExt (i : Nat) (w : WE) : WS := fun E env c => ∃ ds, env[i]? = some (.own ds) ∧ w env c fun d c1 => ∃ es, d = .tup es ∧ ds.length + es.length ≤ sizeLine ∧ E.nx (env.set i (.own (ds ++ es))) c1
theorem dsExt (i : Nat) {x : Str} {e : Expr} {we : WE} {p1 apos cpos : Pos} (he : PE X e (tG X.K F γ we)) (hN : X.N[i]? = some x := by rfl) (hv : Vis X.env.scope x := by first | exact Or.inl rfl | exact Or.inr (Or.inl rfl) | exact Or.inr (Or.inr rfl)) (hd : (x == ("__debug__" : Str)) = false := by decide)
    (hcd : (x == ("__classdict__" : Str)) = false := by decide) (hbase : attributeBase (.Name x p1) "extend" X.env (eval (.Name x p1) X.env) = eval (.Name x p1) X.env := by rfl)
    (hfew : ((backTo cpos (starEach [e] X.env)).all (fun x => !x.1) && (backToKw cpos (keywordEach [] X.env)).all (fun x => x.1.isSome)
      && decide ([e].length + ([] : List Keyword).length + (if ([] : List Keyword).isEmpty then 0 else 1) < 30)) = true := by rfl)
    (hline : (apos.endLine == cpos.line) = true := by rfl) (hs : starEach [e] X.env = (false, eval e X.env) :: starEach [] X.env := by rfl) (hplain : (backTo cpos (starEach [] X.env)).any (·.1) = false := by rfl) (hsw : swapsWith (.Call (.Attribute (.Name x p1) "extend" apos) [e] [] cpos) none pos.line X.env = pure false := by rfl) :
    PS X (.Expr (.Call (.Attribute (.Name x p1) "extend" apos) [e] [] cpos) pos) (tS X.K F γ (wExt i we)) := by
  refine PS.imp (ps_expr (pe_bm PySem.F.plainAttrs_list PySem.F.slot_list_extend PySem.F.type_list_extend mt_extendT (pe_var hN hv hd hcd) (pa_cons he pa_nil hs) hbase hfew hline hs hplain) hsw) fun E σ H h => ?_
  obtain ⟨H0, env, c, D, R, ⟨ds, e1, q⟩, k1, k2, k3, k4⟩ := h
  obtain ⟨a, vs, s1, a1, v1, z1⟩ := R.own_at e1
  refine ⟨.ref a, s1, .inl ⟨rfl, vs, .inl (.inl a1)⟩, H0, env, c, _, R, q, fun d c1 v H1 H01 ⟨es, ed, lt, q1⟩ s2 R1 h1 => ?_⟩
  subst ed
  obtain ⟨a', vs', s1', a2, v2, z2⟩ := R1.own_at e1
  rw [s1] at s1'
  cases s1'
  cases h1 with
  | tup b1 b2 =>
    refine ⟨a, _, vs', _, rfl, rfl, a2, SqT.of (R1.core.sub _ _ b1), by rw [v2.length, b2.length]; exact lt, k1 _ _ _ _ _ q1 s2 (R1.writeOwn s1 e1 ?_ (v2.append b2))⟩
    rw [List.length_append, v2.length, b2.length]
    exact lt
end
theorem e_Ext {i : Nat} {w : WE} {E : WEnds} {env : List Sl} {c : Nat} : wExt i w E env c = ∃ ds, env[i]? = some (.own ds) ∧ w env c fun d c1 => ∃ es, d = .tup es ∧ ds.length + es.length ≤ sizeLine ∧ E.nx (env.set i (.own (ds ++ es))) c1 := rfl
theorem units65 {k : Nat} {A : Around} (r : Room k A) : A.units + 65 < cLine := by have := r.un; omega
end L2.DL

set_option Elab.async false
set_option linter.all false
set_option autoImplicit false
set_option maxRecDepth 100000
set_option maxHeartbeats 4000000
/-! Own exception classes: the class called, its __init__ with super().__init__(..) walked. -/
namespace L2.DL
open PySem PySem.Spec PyProof.Rows
/-! ### the wrapper of ValueError.__init__, called -/
section
open PySem.W
variable {prog : Program} {w : World} {A : Around} {E : Value → Shared → Prop} {h : Heap} {g : Array GenState} {d : Drawn} {t : Nat} {os : OsState}
variable {nm q : Str} {C N : Addr} {bs bm : List Value} {hdct : Bool} {sn : List Str} {sub : List Value} {ab : Bool} {col : Option Bool} {dd : Option Addr} {k0 k1 k2 k3 k5 : Option Value}
theorem call_mw {u e t0 : Addr} {rest : List Value} {Q : Value → Shared → Prop}
    (hC : h.get? C = some (excClassObj nm q C N bs bm hdct sn sub ab col dd k0 k1 k2 k3 k5 "ValueError.__new__")) (he : h.get? e = some (HandSPX.excO C t0)) (hu : h.get? u = some (kxs_mw "ValueError.__init__" e)) (hrest : rest.length ≤ sizeLine)
    (hq : ∀ h' t1, (∀ b o, b ≠ e → h.get? b = some o → h'.get? b = some o) → h'.get? e = some (HandSPX.excO C t1) → Q .none ⟨h', g, d, t, os⟩) :
    wpAny (model prog w) A (call (.ref u) rest) Q E ⟨h, g, d, t, os⟩ := by
  refine wpAny_call (codeAny_of_tree ?_)
  show wpAny _ A.in1 (callAny (.ref u) ⟨rest, []⟩) _ _ _
  simp only [callAny]
  refine wpAny_bind (wpAny_load hu ?_)
  simp only [kxs_mw, show (Value.type "method-wrapper" == Value.type "method" || Value.type "method-wrapper" == Value.type "builtin_function_or_method" || Value.type "method-wrapper" == Value.type "method-wrapper") = true by decide, if_true]
  refine W.KFB.if_so (by decide) ?_
  refine wpAny_bind (ESX.check_bound F.excBase_ValueError hC he rfl ?_)
  refine wpAny_bind (wpAny_pure (wpAny_pure ?_))
  refine ⟨Code.quiet_builtin _ (by decide +kernel), codeAny_builtin F.excBase_ValueError.initEntry ?_⟩
  rw [Around.under_plainId F.excBase_ValueError.init.plain _]
  wp_walk
  refine hq _ h.objs.size (fun b o hb ho => ?_) ?_
  · rw [Heap.get?_update_other _ _ (Ne.symm hb)]
    exact Heap.get?_push_of_some _ ho
  · rw [Heap.get?_update_self _ (Heap.get?_push_of_some _ he) rfl]
    rfl
end
/-! ### the context of such an __init__ -/
abbrev iniEnv (qual : Str) (sc : Scope) (L f : Addr) (cd : Value) (cc : Addr) : Env := PySem.W.ksEnv qual sc L f cd cc
def iniCx (P : Program) (w : World) (K : PySem.W.Frag) (mg : Str → Option Value) (base : Heap) (N : List Str) (qual : Str) (sc : Scope) (f : Addr) (cd : Value) (cc : Addr) (A : Around) (outer : List Env) (s : Shared) (H : Hp) : Cx where
  prog := P
  w := w
  K := K
  mg := mg
  base := base
  A := A.deeper (iniEnv qual sc s.heap.objs.size f cd cc)
  N := N
  s_0 := s
  H_0 := H
  env := iniEnv qual sc s.heap.objs.size f cd cc
  outer := outer
  stack := iniEnv qual sc s.heap.objs.size f cd cc :: outer
  ex := []
  calm := true
  fn := fun _ => false
  pn := []
  xe := fun _ _ => False
/-- parameters alone, and __class__ -/
structure IniS (ps : List Str) (sc : Scope) : Prop where
  kind : sc.kind = .function
  co : sc.isCoroutine = false
  gen : sc.isGenerator = false
  nd : ps.Nodup
  par : ∀ x ∈ ps, sc.names.lookup x = some .local
  nocell : ∀ y ∈ sc.names, y.2 ≠ .cell
  free : ∀ y ∈ sc.names, y.2 = .free → y.1 = ("__class__" : Str)
theorem lookup_nd {us : List Value} {y : Str} {u : Value} : ∀ {ps : List Str} {us : List Value}, ps.Nodup → (y, u) ∈ ps.zip us → (ps.zip us).lookup y = some u
  | [], _, _, h => by simp at h
  | _ :: _, [], _, h => by simp at h
  | p :: ps, v :: us, nd, h => by
    rw [List.nodup_cons] at nd
    rw [List.zip_cons_cons] at h ⊢
    rcases List.mem_cons.mp h with e | e
    · cases e
      simp [List.lookup]
    · have n : y ≠ p := fun z => nd.1 (by rw [← z]; exact (List.of_mem_zip e).1)
      have n' : (y == p) = false := by simpa using n
      simp only [List.lookup, n']
      exact lookup_nd (us := us) nd.2 e
theorem lookup_perm {l l' : List (Str × Value)} {y : Str} {u : Value} (nd : (l.map (·.1)).Nodup) (h : (y, u) ∈ l) : l.lookup y = some u := by
  induction l with
  | nil => cases h
  | cons p l ih =>
    obtain ⟨k, v⟩ := p
    rw [List.map_cons, List.nodup_cons] at nd
    rcases List.mem_cons.mp h with e | e
    · cases e
      simp [List.lookup]
    · have n : y ≠ k := fun z => nd.1 (List.mem_map.mpr ⟨_, e, z⟩)
      have n' : (y == k) = false := by simpa using n
      simp only [List.lookup, n']
      exact ih nd.2 e
theorem zip_look {ps : List Str} {us : List Value} {i : Nat} {y : Str} {u : Value} (nd : ps.Nodup) (hl : us.length = ps.length) (h1 : ps[i]? = some y) (h2 : us[i]? = some u) : (ps.zip us).reverse.lookup y = some u := by
  refine lookup_perm (l' := []) ?_ (List.mem_reverse.mpr (List.mem_of_getElem? (i := i) ?_))
  · rw [List.map_reverse, List.map_fst_zip (by omega)]
    unfold List.Nodup at nd ⊢
    exact List.pairwise_reverse.mpr (nd.imp fun h => h.symm)
  · rw [List.getElem?_zip_eq_some]
    exact ⟨h1, h2⟩
section
variable {P : Program} {w : World} {K : PySem.W.Frag} {mg : Str → Option Value} {base : Heap} {ps : List Str} {qual : Str} {sc : Scope} {f cc : Addr} {cd : Value} {A : Around} {outer : List Env} {s : Shared} {H : Hp} {us : List Value} {vs : List V} {h₀ : Heap} {tk : Nat}
theorem inv_ini (S : IniS ps sc) (hd : A.handled = none) (e0 : Env0 P w K mg base A outer s H) (hl : vs.length = ps.length) (r : Vals vs us) {cl : Value} {cld : Option Addr} {cv : Option Value} {csl : Array (Option Value)}
    (hc : K.lookup cc = some ⟨cl, cld, .cell cv, csl⟩)
    (hns : h₀.Ns s.heap.objs.size fun y => (ps.zip us).reverse.lookup y) (kp : ∀ b o, s.heap.get? b = some o → h₀.get? b = some o) :
    Inv (iniCx P w K mg base ps qual sc f cd cc A outer s H) [] (vs.map some) H { s with heap := h₀, toks := tk } := by
  have noA : ∀ b : Addr, b ∉ (iniCx P w K mg base ps qual sc f cd cc A outer s H).ex := fun b z => absurd (show b ∈ ([] : List Addr) from z) (by simp)
  have hcs : ∀ y c, (iniCx P w K mg base ps qual sc f cd cc A outer s H).env.cells.lookup y = some c → y = ("__class__" : Str) ∧ c = cc := fun y c e => by
    have e : List.lookup y [(("__class__" : Str), cc)] = some c := e
    simp only [List.lookup] at e
    split at e
    · rename_i z
      exact ⟨by simpa using z, (Option.some.inj e).symm⟩
    · cases e
  have hcb := e0.bs cc _ (e0.mod.kin _ _ hc)
  refine ⟨⟨e0.mod, S.kind, rfl, rfl, Nat.le_refl _, fun x y c h1 h2 => (hcs _ _ h1).1.trans (hcs _ _ h2).1.symm, fun y hy => ?_, fun y c z _ => absurd (show false = true from z) Bool.false_ne_true, fun _ => hd, Around.frames_deeper e0.frames, .inr ⟨rfl, rfl⟩, fun b z => absurd z (noA b), e0.bs, e0.bsz, fun b _ _ => noA b, fun b z => absurd z (noA b), e0.funs, e0.frf⟩,
    rfl, e0.bare, Un.kept kp, ⟨_, hns, fun i y v e1 e2 _ => ?_⟩, fun y c e => ?_, e0.hok.fresh (Nat.le_refl _), fun y c e => ?_, fun q hq => absurd (show q ∈ ([] : List (Addr × Obj)) ++ [] from hq) (by simp), e0.hok.kept kp, ?_⟩
  · have hy : sc.names.lookup y = some .cell ∨ sc.names.lookup y = some .free := hy
    rcases hy with hy | hy
    · exact absurd rfl (S.nocell _ (PySem.mem_of_lookup hy))
    · have z := S.free _ (PySem.mem_of_lookup hy) rfl
      subst z
      exact ⟨cc, by show List.lookup _ [_] = _; simp [List.lookup]⟩
  · rw [List.getElem?_map] at e2
    cases ev : vs[i]? with
    | none => rw [ev] at e2; cases e2
    | some v' =>
      rw [ev] at e2
      cases e2
      obtain ⟨u, hu, rv⟩ := r.get ev
      exact ⟨u, rv, .inl ⟨S.par y (List.mem_of_getElem? e1), zip_look S.nd (r.length.symm.trans hl) e1 hu⟩⟩
  · obtain ⟨_, rfl⟩ := hcs _ _ e
    exact ⟨cv, _, kp _ _ hcb.1, rfl⟩
  · obtain ⟨_, rfl⟩ := hcs _ _ e
    exact hcb.2
  · rw [List.length_map]
    exact hl
end
/-- what the written part says of an own exception class and its __init__ -/
structure IniC (P : Program) (K : PySem.W.Frag) (mg : Str → Option Value) (C fI : Addr) (qual : Str) (params : Arguments) (body : List Stmt) (sc : Scope) (fd : FuncData) : Prop where
  oex : OexC K C
  iC : PySem.W.findIn K (.ref C) "__init__" = some (some (.ref fI))
  tI : PySem.W.typeIn K (.ref fI) = some (.type "function")
  fn : ∃ (oc : Value) (od : Option Addr) (kV doc pm : Value) (an : Option Addr) (cda : Addr) (ct : Value) (cc : Addr) (osl : Array (Option Value)), fd = PySem.W.ksFn "__init__" qual params body sc .none kV doc pm an (.ref cda) ct cc ∧
    K.lookup fI = some ⟨oc, od, .func fd, osl⟩ ∧ PySem.W.codeIn K (.ref cda) qual = true ∧
    (∃ (ccl : Value) (cdd : Option Addr) (vs : Array Value) (ccs : Array (Option Value)) (file : Str) (tf : Tok), K.lookup cda = some ⟨ccl, cdd, .fields vs, ccs⟩ ∧ vs[2]? = some (.str file tf) ∧ ((P.main.file : Str) == file) = true) ∧
    ∃ (cl : Value) (cld : Option Addr) (csl : Array (Option Value)), K.lookup cc = some ⟨cl, cld, .cell (some (.ref C)), csl⟩
  sup : PySem.W.ks_superIn K C C "__init__" = some (some (.builtin "ValueError.__init__"))
  sB : PySem.W.subIn K (.ref C) (.type "ValueError") = some true
  mC : PySem.W.mroIn K C (.ref C) = some true
  op : PySem.W.nsIn K cStatics "thirdparty.any" = some none
  mS : mg "super" = none
/-- self, the fields; ta: the message's reading; t: that of the stores -/
def spIni (C : Addr) (n : Nat) (ta : TA) (t : TS) : Sp := fun vs H Q _ => ∃ (a : Addr) (ys : List V), vs = .ref a :: ys ∧ ys.length = n ∧ H a = some (exo a C none) ∧
  ta (vs.map some) H (fun us H1 => us.length ≤ 1000 ∧ H1 = H) ∧ t { nx := fun _ H' => Q .non H', rt := Q } (vs.map some) H
end L2.DL

set_option Elab.async false
set_option linter.all false
set_option autoImplicit false
set_option maxRecDepth 100000
set_option maxHeartbeats 4000000
namespace L2.DL
open PySem PySem.Spec PyProof.Rows
section
variable {X : Cx} {pins : List (Addr × Obj)} {σ : St} {H : Hp} {s : Shared}
theorem Inv.unpin (I : Inv X pins σ H s) : Inv X [] σ H s := ⟨I.ok, I.os, I.bare, I.base, I.loc, I.cell, I.free, I.freeC, fun p hp => I.pin p (by rw [List.append_nil] at hp; exact List.mem_append_left _ hp), I.hok, I.len⟩
theorem Inv.pinOne (I : Inv X [] σ H s) {a : Addr} {o : Obj} (h : s.heap.get? a = some o) (hn : H a = none) (hL : a ≠ X.env.locals) (hf : a ∉ X.fs) (hc : ∀ v, o.data ≠ .cell v) : Inv X [(a, o)] σ H s :=
  ⟨I.ok, I.os, I.bare, I.base, I.loc, I.cell, I.free, I.freeC, fun p hp => by
    rcases List.mem_append.mp hp with z | z
    · exact I.pin p (by rw [List.append_nil]; exact z)
    · have e := List.mem_singleton.mp z
      subst e
      exact ⟨h, hn, hL, hf, hc⟩, I.hok, I.len⟩
end
section
variable {P : Program} {w : World} {K : PySem.W.Frag} {mg : Str → Option Value} {base : Heap} {C fI : Addr} {qual : Str} {params : Arguments} {sc : Scope} {fd : FuncData} {ps : List Str} {n : Nat} {ta : TA} {t : TS} {rest : List Stmt} {jse : Expr} {p0 p1 p2 p3 p4 : Pos} {sn : Str}
theorem ini_fn (hn : ps.length = n + 1) (hsn : ps[0]? = some sn) (IC : IniC P K mg C fI qual params (.Expr (.Call (.Attribute (.Call (.Name "super" p0) [] [] p1) "__init__" p2) [jse] [] p3) p4 :: rest) sc fd) (S : IniS ps sc)
    (har : ∃ ar : Arg, (params.posonlyargs ++ params.args).head? = some ar ∧ ar.arg = sn)
    (hks : sc.names.lookup ("super" : Str) = some .globalImplicit) (hkc : sc.names.lookup ("__class__" : Str) = some .free) (htop : (P.main.scope.names.lookup ("super" : Str)).isSome = false)
    (hpl : ∀ (L f cc : Addr) (cd : Value), ∃ pl : Sem Bool, eval (.Call (.Attribute (.Call (.Name "super" p0) [] [] p1) "__init__" p2) [jse] [] p3) (iniEnv qual sc L f cd cc) = (do
      let ov ← attributeBase (.Call (.Name "super" p0) [] [] p1) "__init__" (iniEnv qual sc L f cd cc) (eval (.Call (.Name "super" p0) [] [] p1) (iniEnv qual sc L f cd cc))
      standAt p2.atName
      let (fx, first) ← holding [ov] (getMethod ov "__init__" pl)
      callWith p3 fx first (backTo p3 (starEach [jse] (iniEnv qual sc L f cd cc))) []))
    (hi : ∀ (L f cc : Addr) (cd : Value), interactive (iniEnv qual sc L f cd cc) = false) (hs : ∀ (L f cc : Addr) (cd : Value), swapsWith (.Call (.Attribute (.Call (.Name "super" p0) [] [] p1) "__init__" p2) [jse] [] p3) none p4.line (iniEnv qual sc L f cd cc) = pure false)
    (hst : ∀ (L f cc : Addr) (cd : Value), starEach [jse] (iniEnv qual sc L f cd cc) = (false, eval jse (iniEnv qual sc L f cd cc)) :: starEach [] (iniEnv qual sc L f cd cc))
    (ha : ∀ (cd : Value) (cc : Addr) (A : Around) (outer : List Env) (s : Shared) (H : Hp), PA (iniCx P w K mg base ps qual sc fI cd cc A outer s H) [jse] ta)
    (hr : ∀ (cd : Value) (cc : Addr) (A : Around) (outer : List Env) (s : Shared) (H : Hp), PSs (iniCx P w K mg base ps qual sc fI cd cc A outer s H) rest t) (k : Nat) :
    FnOk P w K mg base CX0 (k + 1) fI fd ps (spIni C n ta t) := by
  refine ⟨fun vs H Q E ⟨a, ys, e, hy, _⟩ => by rw [e, List.length_cons, hy, hn], fun A outer s H args us vs Q E hroom e0 hb rel hsp => ?_⟩
  obtain ⟨oc, od, kV, doc, pm, an, cda, ct, cc, osl, rfl, lk, hcd, ⟨ccl, cdd, cvs, ccs, file, tf, hcda, hvs, hfile⟩, cl, cld, csl, hcell⟩ := IC.fn
  obtain ⟨ar, har, rfl⟩ := har
  have hvl : vs.length = ps.length := by
    obtain ⟨a, ys, e, hy, _⟩ := hsp
    rw [e, List.length_cons, hy, hn]
  have inK : K.In s.heap := e0.mod.kin.keeps (fun b o e => (e0.bs b o e).left)
  have nolim : s.heap.NoLimit := e0.mod.nolimit.keeps (fun b o e => (e0.bs b o e).left)
  obtain ⟨a, ys, rfl, hy, hex, hta, ht⟩ := hsp
  obtain ⟨nm, q, N, bs, bm, hdN, sub, ab, col, dd, k0, k1, k2, k3, k5, hCl, hbm⟩ := IC.oex.cls
  have hloc : ∀ x ∈ ps.zip us, sc.names.lookup x.1 = some .local := fun ⟨x, v⟩ hx => S.par x (List.of_mem_zip hx).1
  refine PySem.ks_codeAny_call_defAt (fd := PySem.W.ksFn "__init__" qual params _ sc .none kV doc pm an (.ref cda) ct cc) (binds := ps.zip us) hroom.depth (inK _ _ lk) rfl nolim (PySem.W.codeRec_of inK hcd) rfl hb S.nocell hloc (fun h₀ hns kp => ?_) S.co S.gen S.kind
  show PySem.wpAt (model P w) (A.deeper (iniEnv qual sc s.heap.objs.size fI (.ref cda) cc)) (.func _ (iniEnv qual sc s.heap.objs.size fI (.ref cda) cc)) (execs _ (iniEnv qual sc s.heap.objs.size fI (.ref cda) cc)) _ _ _
  have I0 := inv_ini (cd := .ref cda) (f := fI) (qual := qual) (us := us) (tk := s.toks + (ps.zip us).length) S hroom.hd e0 hvl rel hcell hns kp
  have K0 : K.In h₀ := inK.keeps kp
  obtain ⟨t1, ho⟩ := exo_at I0.hok hex
  obtain ⟨pl, hpl⟩ := hpl s.heap.objs.size fI cc (.ref cda)
  obtain ⟨mb, hmb, hbb⟩ := e0.mod.blt
  have kb : ∀ b o, base.get? b = some o → h₀.get? b = some o := fun b o e => kp _ _ (e0.bs b o e).1
  have self0 : (ps.zip us).reverse.lookup ar.arg = some (.ref a) := by
    cases rel with
    | @cons _ u0 _ ur ra rr =>
      obtain rfl : u0 = Value.ref a := ra
      refine zip_look S.nd ?_ hsn rfl
      have := Paired.length rr
      rw [List.length_cons, ← this, hy, hn]
  have karg : sc.names.lookup ar.arg = some .local := S.par _ (List.mem_of_getElem? hsn)
  have hcl : PySem.W.clsIn K C = some { name := nm, bases := bs, mro := .ref C :: bm, ns := N, qualname := q, hasDict := true, slotNames := hdN, subclasses := sub, abstract := ab, collection := col, hasDel := false } := by unfold PySem.W.clsIn; rw [hCl] <;> rfl
  have haC : a ≠ C := fun z => by
    have e1 := K0 _ _ hCl
    rw [← z] at e1
    have e2 := e1.symm.trans ho
    cases e2
  refine PySem.ks_wpAt_execs_cons (PySem.ks_wpAt_Expr_any (PySem.ks_wpAt_MethodCall (pl := pl) ?_ hpl) (hi _ _ _ _) (hs _ _ _ _))
  refine PySem.ks_wpAt_super_base (env := iniEnv qual sc s.heap.objs.size fI (.ref cda) cc) hks hkc (by decide) rfl (K0 _ _ lk) rfl har rfl (K0 _ _ hcda) rfl hvs hfile htop ?_
  refine PySem.W.ks_loadName_global S.kind hks (PySem.Calls.loadGlobal_builtin (env := iniEnv qual sc s.heap.objs.size fI (.ref cda) cc) (e0.mod.glob.keeps kb) IC.mS (hmb.keeps kb) ((hbb _ (by decide +kernel)).trans (by first | boot_by_name | rfl | kernel_rfl)) ⟨rfl, ?_⟩)
  refine wpAny_loadName_free S.kind hkc rfl ⟨_, K0 _ _ hcell, rfl⟩ ?_
  refine wpAny_loadName_local S.kind karg hns self0 ?_
  refine PySem.ks_wpAny_isType_cls (K0 _ _ hCl) rfl ⟨rfl, ?_⟩
  refine PySem.ks_wpAny_call_super (K0 _ _ hCl) rfl ho rfl (fun c e => by cases e) (PySem.W.looks_mroIn K0 IC.mC) (fun h1 e1 kk1 => ?_)
  have K1 : K.In h1 := K0.keeps kk1
  have hI : PySem.W.Looks (model P w) h1 (isInstance (.ref a) (.type "ValueError")) true := PySem.W.Looks.andThen (PySem.W.InstAt.type (x := a) (ox := { cls := .ref C, dict := none, data := .fields #[.ref t1, .none, .none, .none, .bool false, .none] }) (C := C) (od := none) ⟨kk1 _ _ ho, rfl, rfl, trivial⟩) (PySem.W.looks_subIn K1 IC.sB)
  have hmro : PySem.W.Looks (model P w) h1 (mroOf (.ref C)) (.ref C :: bm) := fun A Q E s k q => wpAny_bind ((PySem.W.looks_clsIn K1 hcl) A _ E s k (wpAny_pure q))
  have hal : PySem.W.alongIn K "__init__" (((Value.ref C :: bm).dropWhile (· != .ref C)).drop 1) = some (some (.builtin "ValueError.__init__")) := by
    have z := IC.sup
    unfold PySem.W.ks_superIn at z
    rw [hcl] at z
    exact z
  refine PySem.W.kxs_getMethod PySem.W.kxs_ValueError e1 (PySem.W.looks_opaque K1 IC.op) hmro rfl K1 hal hI haC (by decide) ?_
  have I1 := Inv.pinOne (a := h1.objs.size) (o := PySem.W.kxs_mw "ValueError.__init__" a) (I0.kept (h' := h1.push (PySem.W.kxs_mw "ValueError.__init__" a)) (t' := s.toks + (ps.zip us).length + 1) fun b o e => Heap.get?_push_of_some _ (kk1 _ _ e)) (Heap.get?_push_at rfl rfl) (I0.hok.fresh (by
      have := Heap.lt_size e1
      exact Nat.le_of_lt this)) (fun z => by
      have h2 : s.heap.objs.size < h1.objs.size := by
        obtain ⟨oL, es, ep, hL, _⟩ := hns
        exact Heap.lt_size (kk1 _ _ hL)
      exact absurd h2 (by rw [show h1.objs.size = s.heap.objs.size from z]; exact Nat.lt_irrefl _)) (fun z => by
      obtain ⟨_, o, eo, _⟩ := e0.funs.mem z
      exact absurd (Heap.lt_size (kk1 _ _ (kp _ _ eo))) (Nat.lt_irrefl _)) (fun v e => by cases e)
  have plain1 : (backTo p3 (starEach [jse] (iniEnv qual sc s.heap.objs.size fI (.ref cda) cc))).any (·.1) = false := by rw [hst]; rfl
  refine PySem.W.kxs_callWith (i := "ValueError.__init__") (x := a) plain1 ?_
  have kw0 : evalArgs (.ref h1.objs.size) true (backTo p3 (starEach [jse] (iniEnv qual sc s.heap.objs.size fI (.ref cda) cc))) [] = evalArgs (.ref h1.objs.size) true (backTo p3 ((false, eval jse (iniEnv qual sc s.heap.objs.size fI (.ref cda) cc)) :: starEach [] (iniEnv qual sc s.heap.objs.size fI (.ref cda) cc))) [] := by rw [hst]
  rw [kw0]
  have ha' := (ha (.ref cda) cc A outer s H).run p3 [(h1.objs.size, PySem.W.kxs_mw "ValueError.__init__" a)] _ _ H _ I1 hta
  have hst' := hst s.heap.objs.size fI cc (.ref cda)
  change wpAny (model P w) (A.deeper (iniEnv qual sc s.heap.objs.size fI (.ref cda) cc)) (spliced (backTo p3 (starEach [jse] (iniEnv qual sc s.heap.objs.size fI (.ref cda) cc)))) _ _ _ at ha'
  rw [hst'] at ha'
  refine PySem.Calls.evalArgs_plain (wpAny_mono ha' (fun us2 s2 hq2 => ?_) (fun _ _ z => False.elim z))
  obtain ⟨vs2, H2, I2, r2, hl2, rfl⟩ := hq2
  obtain ⟨hp2, g2, d2, tk2, os2⟩ := s2
  obtain ⟨hmw, _⟩ := I2.pin (h1.objs.size, PySem.W.kxs_mw "ValueError.__init__" a) (List.mem_append_right _ (List.mem_singleton.mpr rfl))
  have I3 := Inv.unpin I2
  obtain ⟨t2, ho2⟩ := exo_at I3.hok hex
  refine ⟨hmw, call_mw (I3.kIn _ _ hCl) ho2 hmw (by have := Paired.length r2; simp only [List.nil_append]; rw [sizeLine_eq]; omega) fun h' t3 kk hx => ?_⟩
  have J := I3.write (t' := tk2) (x := a) (e := a) (o := exo a C none) (by rw [hex]; exact True.intro) (.inl rfl) kk ⟨_, hx⟩ (exo_ok hx)
  have eu : upd H2 a (exo a C none) = H2 := by
    funext b
    by_cases hb : b = a
    · rw [hb, upd_same, hex]
    · rw [upd_ne hb]
  rw [eu] at J
  refine wpAt_of_wpAny (wpAny_mono ((hr (.ref cda) cc A outer s H2).run [] _ _ H2 _ J ht) (fun fl s' hs => ?_) fun _ _ z => False.elim z)
  have fin : ∀ {σ' : L2.St} {H' : Hp} {v : V} {u : Value}, Inv (iniCx P w K mg base ps qual sc fI (.ref cda) cc A outer s H2) [] σ' H' s' → L2.RelV v u → Q v H' → CE outer P w H2 s Q u s' :=
    fun {σ' H' v u} J rv q => ⟨v, H', J.os, J.bare, J.base, J.hok, rv, q⟩
  match fl, hs with
  | .ret u, ⟨v, σ', H', J, rv, q⟩ => exact fin J rv q
  | .next, ⟨σ', H', J, q⟩ => exact fin (v := V.non) (u := Value.none) J rfl q
  | .brk, ⟨_, _, _, q⟩ => exact (show False from q).elim
  | .cont, ⟨_, _, _, q⟩ => exact (show False from q).elim
end
end L2.DL

set_option Elab.async false
set_option linter.all false
set_option autoImplicit false
set_option maxRecDepth 100000
set_option maxHeartbeats 4000000
/-! raise, calls that may raise, a caught exception kept. -/
namespace L2.DL
open PySem PySem.Spec PyProof.Rows
/-- an exception told: its class, its fields -/
structure XD where
  c : Nat
  ks : List Nat
  vs : List D
abbrev XC := List Sl → XD → Nat → Prop
def HasX (K : PySem.W.Frag) (H0 : Hp) (cls : Value) (d : Option Addr) (x : XD) : Prop :=
  ∃ (C dd : Addr) (fs : List (Str × V)), Glo K (exNm x.c) C ∧ cls = .ref C ∧ d = some dd ∧ H0 dd = some (.xd fs) ∧ fs.map (·.1) = x.ks.map fdNm ∧ HasL K H0 (fs.map (·.2)) x.vs
def wishR (K : PySem.W.Frag) (F : Hp) (γ : Gm) (xc : XC) : WX := fun cls d σ H => ∃ H0 env c x, Rep K F γ H0 H σ env c ∧ HasX K H0 cls d x ∧ xc env x c
/-! ### a class's promise -/
def V.msgOk : V → Prop
  | .str x => x.length ≤ 1000
  | .int i => i.natAbs.log2 < 1920 ∧ (Str.ofString (toString i)).length ≤ 1000
  | _ => False
def D.msgOk : D → Prop
  | .str x => x.length ≤ 1000
  | .int i => i.natAbs.log2 < 1920 ∧ (Str.ofString (toString i)).length ≤ 1000
  | _ => False
def AllMsg : List D → Prop
  | [] => True
  | d :: r => d.msgOk ∧ AllMsg r
def AllMsgV : List V → Prop
  | [] => True
  | d :: r => V.msgOk d ∧ AllMsgV r
theorem msg_of {K : PySem.W.Frag} {H : Hp} : ∀ {vs : List V} {ds : List D}, HasL K H vs ds → AllMsg ds → AllMsgV vs
  | _, _, .nil, _ => trivial
  | _, _, .cons h t, m => ⟨by
    have m1 := m.1
    cases h <;> first | exact m1 | exact False.elim m1, msg_of t m.2⟩
/-- self, then the fields' values -/
def spX (C : Addr) (ks : List Str) : Sp := fun vs H Q _ => ∃ (a : Addr) (ys : List V), vs = .ref a :: ys ∧ ys.length = ks.length ∧ H a = some (exo a C none) ∧ AllMsgV ys ∧
  ∀ dx, H dx = none → dx ≠ a → Q .non (upd (upd H dx (exd dx (ks.zip ys).reverse)) a (exo a C (some dx)))
structure ClsD (P : Program) (w : World) (K : PySem.W.Frag) (mg : Str → Option Value) (base : Heap) (k : Nat) (ec : Nat) (c : Str) (C fI : Addr) (fd : FuncData) (ps : List Str) (ks : List Nat) : Prop where
  nm : exNm ec = c
  oex : OexC K C
  iC : PySem.W.findIn K (.ref C) "__init__" = some (some (.ref fI))
  tI : PySem.W.typeIn K (.ref fI) = some (.type "function")
  glo : Glo K c C
  mgc : mg c = some (.ref C)
  bd : Binds K fd ps []
  run : FnOk P w K mg base CX0 k fI fd ps (spX C (ks.map fdNm))
/-! ### raise C(..) -/
def wRaise (xc : XC) (c : Nat) (ks : List Nat) (wa : WA) : WS := fun _ env n => wa env n fun ds n1 => ds.length = ks.length ∧ AllMsg ds ∧ xc env ⟨c, ks.reverse, ds.reverse⟩ n1
section
variable {X : Cx} {F : Hp} {γ : Gm} {pos p pos2 : Pos} {k ec : Nat} {c : Str} {C fI : Addr} {fd : FuncData} {ps : List Str} {ks : List Nat} {xc : XC} {e : Expr} {es : List Expr} {wa : WA}
theorem heap_end {H : Hp} {a dx : Addr} {u v x y : HO} (ha : H a = none) (hne : dx ≠ a) : upd (del (upd (upd (upd H a u) dx v) a x) a) dx y = upd H dx y := by
  funext b
  by_cases h1 : b = dx
  · rw [h1, upd_same, upd_same]
  · rw [upd_ne h1, upd_ne h1]
    by_cases h2 : b = a
    · rw [h2, del_same, ha]
    · rw [del_ne h2, upd_ne h2, upd_ne h1, upd_ne h2]
theorem dsRaise (tk : Takes X (wishR X.K F γ xc)) (CD : ClsD X.prog X.w X.K X.mg X.base k ec c C fI fd ps ks) (hr : Room (k + 1) X.A) (ha : PA X (e :: es) (tA X.K F γ wa)) (hks : ks.length ≤ 900) (hc : X.calm = true := by rfl) (hg : Gl X c := by rfl)
    (hdb : (c == ("__debug__" : Str)) = false := by decide) (he : starEach (e :: es) X.env = (false, eval e X.env) :: starEach es X.env := by rfl) (hpl : (backTo pos (starEach es X.env)).any (·.1) = false := by rfl) :
    PS X (.Raise (some (.Call (.Name c p) (e :: es) [] pos)) none pos2) (tS X.K F γ (wRaise xc ec ks wa)) := by
  refine PS.imp (ps_raise hc tk (pmk_oex CD.oex CD.iC CD.tI CD.run hr CD.bd .nil pass0 hg CD.mgc ha hdb he hpl)) fun E σ H h => ?_
  obtain ⟨H0, env, n, D, R, q, _⟩ := h
  refine ⟨H0, env, n, _, R, q, fun ds n1 vs H1 H01 ⟨hl, hm, q1⟩ s1 R1 h1 => ?_⟩
  have hvl := h1.length
  refine ⟨by omega, fun a ha => ⟨a, vs ++ [], rfl, by rw [List.append_nil, List.length_map]; omega, upd_same, by rw [List.append_nil]; exact msg_of h1 hm, fun dx hdx hne => ?_⟩⟩
  rw [upd_ne hne] at hdx
  refine ⟨rfl, dx, ((ks.map fdNm).zip (vs ++ [])).reverse, upd_same, by rw [upd_ne hne, upd_same], hdx, ?_⟩
  rw [heap_end ha hne, List.append_nil]
  refine ⟨_, env, n1, ⟨ec, ks.reverse, ds.reverse⟩, R1.alloc hdx, ⟨C, dx, _, (by rw [CD.nm]; exact CD.glo), rfl, rfl, upd_same, ?_, ?_⟩, q1⟩
  · rw [List.map_reverse, List.map_fst_zip (by rw [List.length_map]; omega), List.map_reverse]
  · rw [List.map_reverse, List.map_snd_zip (by rw [List.length_map]; omega)]
    exact (HasL.reverse h1).mono (Same.new (R1.core.sub.free hdx))
end
/-! ### defs that may raise -/
def spPx (K : PySem.W.Frag) (TB : List (Addr × Str)) (n : Nat) (T : (XD → Prop) → TP) : Sp := fun vs H Q E => ∃ F H0 ds P xc, Core K F ⟨none, H0, TB, none⟩ H0 H 0 ∧ HasL K H0 vs ds ∧ ds.length = n ∧ T xc ds P ∧
  (∀ d v H' H0', P d → Same H0 H0' → Core K F ⟨none, H0, TB, none⟩ H0' H' 0 → Has K H0' v d → Q v H') ∧
  ∀ x cls d H' H0', xc x → Core K F ⟨none, H0, TB, none⟩ H0' H' 0 → HasX K H0' cls d x → E cls d H'
def wPx (w : XC → WS) (m : Nat) : (XD → Prop) → TP := fun xc ds P => w (fun _ x _ => xc x) ⟨fun _ _ => P .non, fun d _ => P d, fun _ _ => False, fun _ _ => False⟩ (ds.map .val ++ List.replicate m .no) 0
section
variable {P : Program} {w : World} {K : PySem.W.Frag} {mg : Str → Option Value} {base : Heap} {x qual : Str} {st : Stmt} {f : Addr} {fd : FuncData} {N ps : List Str} {k m n : Nat} {wb : XC → WS} {TB : List (Addr × Str)} {Tx : (XD → Prop) → TP}
theorem spPx.len {T : (XD → Prop) → TP} {vs : List V} {H : Hp} {Q : VK} {E : XK} (h : spPx K TB n T vs H Q E) : vs.length = n := by
  obtain ⟨F, H0, ds, P, xc, _, hl, e, _⟩ := h
  rw [hl.length, e]
/-- where nothing is raised -/
theorem FnG.x0 (G : FnG P w K mg base (L2.CX P w) k f fd ps (spPx K TB n Tx)) : FnG P w K mg base CX0 k f fd ps (spP K TB n (Tx fun _ => False)) := by
  have to : ∀ vs H Q E, spP K TB n (Tx fun _ => False) vs H Q E → spPx K TB n Tx vs H Q (fun _ _ _ => False) := fun vs H Q E h => by
    obtain ⟨F, gr, H0, ds, P, C, hv, hn, hT, hQ⟩ := h
    exact ⟨F, H0, ds, P, fun _ => False, ⟨C.sub, C.frm, (fun _ e => by cases e), Same.refl _, C.tbs, C.tb0⟩, hv, hn, hT, fun d v H' H0' p s C' hd => hQ d v H' H0' p s ⟨C'.sub, C'.frm, (fun _ e => by cases e), C.grd.trans s, C'.tbs, C'.tb0⟩ hd, fun _ _ _ _ _ z => z.elim⟩
  refine ⟨fun vs H Q E h => G.len vs H Q _ (to _ _ _ _ h), fun A out s H ar us vs Q E hr hg he hb hv hs => ?_⟩
  refine codeAny_mono (G.run A out s H ar us vs Q _ hr hg he hb hv (to _ _ _ _ hs)) fun r s' h => ?_
  match r, h with
  | .error e, h =>
    obtain ⟨_, _, _, _, _, _, _, _, _, _, _, _, z⟩ := (show L2.CX P w out H s (fun _ _ _ => False) e s' from h)
    exact z.elim
  | .ok (.ret u), h => exact h
  | .ok .next, h => exact h
  | .ok .brk, h => exact h
  | .ok .cont, h => exact h
theorem bodyPx {vs : List V} {H : Hp} {Q : VK} {E : XK} (hN : N.length = ps.length + m) (h : spPx K TB ps.length (wPx wb m) vs H Q E) : ∃ F H0 xc, tS K F ⟨none, H0, TB, none⟩ (wb xc) { nx := fun _ H' => Q .non H', rt := Q } (start N vs) H ∧
    ∀ cls d σ H', wishR K F ⟨none, H0, TB, none⟩ xc cls d σ H' → E cls d H' := by
  have hl := h.len
  obtain ⟨F, H0, ds, P, xc, C, hv, hn, hT, hQ, hE⟩ := h
  refine ⟨F, H0, _, ⟨H0, _, 0, _, start_rep C (by omega) (by rw [List.length_map]; exact hv.length) (vals_slot hv) vals_no, hT, ?_, ?_, ?_, ?_⟩, fun cls d σ H' ⟨H0', env, c', x, R, hx, q⟩ => hE x cls d H' H0' q (R.core.g0 rfl) hx⟩
  · exact fun σ' env' c' H' H0' q s1 R1 => hQ .non .non H' H0' q s1 (R1.core.g0 rfl) .non
  · exact fun d c' v H' H0' q s1 C1 h1 => hQ d v H' H0' q s1 (C1.g0 rfl) h1
  · exact fun _ _ _ _ _ q => False.elim q
  · exact fun _ _ _ _ _ q => False.elim q
theorem dFnPx {params : Arguments} {body : List Stmt} {scope : Scope} {dV kV doc pm cdv ct oc : Value} {an od : Option Addr} {osl : Array (Option Value)} (lk : K.lookup f = some ⟨oc, od, .func (PySem.W.fnOf x qual params body scope dV kV doc pm an cdv ct), osl⟩) (hcd : PySem.W.codeIn K cdv qual = true)
    (S : FnScope N ps scope) (hN : N.length = ps.length + m)
    (hb : ∀ (A : Around) (outer : List Env) (s : Shared) (H : Hp) (E : XK) (F gr : Hp) (xc : XC), Room k (A.deeper (envOfC qual scope s.heap.objs.size f cdv)) → (A.deeper (envOfC qual scope s.heap.objs.size f cdv)).guards = some [] →
      Takes (cxOf (L2.CX P w) P w K mg base N qual scope f cdv A outer s H E) (wishR K F ⟨none, gr, TB, none⟩ xc) → PassesOwn (model P w) (A.deeper (envOfC qual scope s.heap.objs.size f cdv)) (envOfC qual scope s.heap.objs.size f cdv) (cxOf (L2.CX P w) P w K mg base N qual scope f cdv A outer s H E).xe →
      PSs (cxOf (L2.CX P w) P w K mg base N qual scope f cdv A outer s H E) body (tS K F ⟨none, gr, TB, none⟩ (wb xc))) :
    FnG P w K mg base (L2.CX P w) (k + 1) f (PySem.W.fnOf x qual params body scope dV kV doc pm an cdv ct) ps (spPx K TB ps.length (wPx wb m)) := by
  refine fnG_of lk hcd S (fun vs H Q E h => h.len) fun A outer s H vs Q E hr hgd h => ?_
  obtain ⟨F, H0, xc, q, hE⟩ := bodyPx hN h
  exact ⟨_, hb A outer s H E F H0 xc hr hgd ((takes_of rfl rfl rfl rfl).imp fun cls d σ H' z => hE cls d σ H' z) (passes_of rfl), q⟩
end
section
variable {X : Cx} {F : Hp} {γ : Gm} {pos p : Pos} {k n : Nat} {f : Addr} {fd : FuncData} {ps : List Str} {x : Str} {e : Expr} {es : List Expr} {wa : WA} {xc : XC}
/-- f(..) that may raise -/
def wCallX (n : Nat) (T : (XD → Prop) → TP) (xc : XC) (dds : List D) (wa : WA) : WE := fun env c P => wa env c fun ds c1 => (ds ++ dds).length = n ∧ T (fun x => xc env x c1) (ds ++ dds) fun d => P d c1
theorem callX_read {K : PySem.W.Frag} {T : (XD → Prop) → TP} {dvs : List V} {dds : List D} (hd : ∀ H, HasL K H dvs dds) {σ : St} {H : Hp} {Q : VK} (h : tG K F γ (wCallX n T xc dds wa) σ H Q) :
    tA K F γ wa σ H fun vs H1 => spPx K γ.tb n T (vs ++ dvs) H1 Q (fun cls d H' => wishR K F γ xc cls d σ H') := by
  obtain ⟨H0, env, c, P, R, q, k⟩ := h
  refine ⟨H0, env, c, _, R, q, fun ds c1 vs H1 H01 ⟨hn, q1⟩ s1 R1 h1 => ?_⟩
  refine ⟨_, H01, ds ++ dds, _, _, R1.core.forP, h1.append (hd _), hn, q1, fun d v H' H0' q2 s2 C2 h2 => ?_, fun x cls d H' H0' q2 C2 hx => ?_⟩
  · exact k _ _ _ _ _ q2 (s1.trans s2) (R1.after C2 s2) h2
  · exact ⟨H0', env, c1, x, R1.after C2 C2.grd, hx, q2⟩
theorem runGX {W : WX} {CX0' : Nat} {pins : List (Addr × Obj)} {σ : St} {H : Hp} {s : Shared} {Q : VK} {E : XK} {us : List Value} {vs dvs : List V} {ds : List Value} {sp : Sp} (tk : Takes X W) (G : FnG X.prog X.w X.K X.mg X.base (L2.CX X.prog X.w) k f fd ps sp) (hr : Room k X.A) (hgd : X.A.guards = some []) (hb : Binds X.K fd ps ds) (hd : Vals dvs ds)
    (I : Inv X pins σ H s) (r : Vals vs us) (hW : ∀ cls d H', E cls d H' → W cls d σ H') (h : sp (vs ++ dvs) H Q E) : wpAny (model X.prog X.w) X.A (call (.ref f) us) (EP X pins σ Q) X.xe s := by
  have rel : Vals (vs ++ dvs) (us ++ ds) := r.append hd
  have hlen : (us ++ ds).length = ps.length := rel.length.symm.trans (G.len _ _ _ _ h)
  refine wpAny_call (codeAny_mono (G.run X.A X.stack s H ⟨us, []⟩ _ _ Q E hr hgd I.env0 (hb s us I.kIn hlen) rel h) fun r s' hq => ?_)
  match r, hq with
  | .error er, hq => exact tk _ _ (XE.of_call I hW hq)
  | .ok (.ret u), hq => exact I.after hq
  | .ok .next, hq => exact (show False from hq).elim
  | .ok .brk, hq => exact (show False from hq).elim
  | .ok .cont, hq => exact (show False from hq).elim
theorem dCallX {T : (XD → Prop) → TP} {dvs : List V} {ds : List Value} {dds : List D} (tk : Takes X (wishR X.K F γ xc)) (G : FnG X.prog X.w X.K X.mg X.base (L2.CX X.prog X.w) k f fd ps (spPx X.K γ.tb n T)) (hr : Room k X.A) (hgd : X.A.guards = some []) (hm : X.mg x = some (.ref f)) (hk : PySem.W.keepIn X.K (.ref f) = true) (hb : Binds X.K fd ps ds) (hd : Vals dvs ds) (hh : ∀ H, HasL X.K H dvs dds)
    (ha : PA X (e :: es) (tA X.K F γ wa)) (hg : Gl X x := by rfl)
    (hdb : (x == ("__debug__" : Str)) = false := by decide) (he : starEach (e :: es) X.env = (false, eval e X.env) :: starEach es X.env := by rfl) (hpl : (backTo pos (starEach es X.env)).any (·.1) = false := by rfl) :
    PE X (.Call (.Name x p) (e :: es) [] pos) (tG X.K F γ (wCallX n T xc dds wa)) := ⟨fun pins s σ H Q I h => wpAny_Call_Name_kw (ld_glob I hg hm
      (PySem.W.callWith_K (h₀ := X.base) I.ok.mod.kin hk (thn (ha.run pos pins s σ H _ I (callX_read hh h)) fun us s1 ⟨vs, H1, I1, r, q⟩ => ⟨I1.kIn, runGX (CX0' := 0) tk G hr hgd hb hd I1 r (fun _ _ _ z => z) q⟩) he hpl) hdb)⟩
end
end L2.DL

set_option Elab.async false
set_option linter.all false
set_option autoImplicit false
set_option maxRecDepth 100000
set_option maxHeartbeats 4000000
/-! try: body, except X as n: m = n; what m holds then. -/
namespace L2.DL
open PySem PySem.Spec PyProof.Rows
section
variable {X : Cx} {pins : List (Addr × Obj)} {σ : St} {H : Hp} {s : Shared}
theorem Inv.unsuiteP {a : Addr} {q : Addr × Obj} {pn' : List (Addr × Obj)} (I : Inv (X.suite a (q :: (X.pn ++ pins))) pn' σ H s) (ok : X.Ok) : Inv X (q :: pins) σ H s :=
  ⟨ok, I.os, I.bare, I.base, I.loc, I.cell, I.free, I.freeC, fun p hp => I.pin p (List.mem_append_left _ (by
    rcases List.mem_append.mp hp with z | z
    · exact List.mem_cons_of_mem _ (List.mem_append_left _ z)
    · rcases List.mem_cons.mp z with z | z
      · rw [z]; exact List.mem_cons_self
      · exact List.mem_cons_of_mem _ (List.mem_append_right _ z))), I.hok, I.len⟩
/-- a pinned object is tracked from now on -/
theorem Inv.track {a : Addr} {oe : Obj} {o : HO} (I : Inv X ((a, oe) :: pins) σ H s) (n0 : X.s_0.heap.get? a = none) (np : ∀ p ∈ X.pn ++ pins, p.1 ≠ a) (new : ObjOk X.prog X.w (upd H a o) s.heap a o) : Inv X pins σ (upd H a o) s := by
  obtain ⟨ga, hn, hL, hf, hcell⟩ := I.pin (a, oe) (List.mem_append_right _ List.mem_cons_self)
  have ne0 : ∀ b u, X.s_0.heap.get? b = some u → b ≠ a := fun b u e z => by rw [z, n0] at e; cases e
  refine ⟨I.ok, I.os, I.bare, ⟨I.base.keep, I.base.slot, fun b u e n hx => by rw [upd_ne (ne0 b u e)]; exact I.base.free b u e n hx, I.base.there, fun b xs e => ?_, fun b u v e => ?_, fun b ps e => ?_⟩, I.loc, I.cell, by rw [upd_ne hL.symm]; exact I.free, fun x c e => ?_, fun p hp => ?_, fun b u e => ?_, I.len⟩
  · have z := I.base.tups b xs e
    rw [upd_ne (ne_of_none z hn)]; exact z
  · have z := I.base.frzs b u v e
    rw [upd_ne (ne_of_none z hn)]; exact z
  · obtain ⟨m, z⟩ := I.base.tbls b ps e
    exact ⟨m, by rw [upd_ne (ne_of_none z hn)]; exact z⟩
  · have nc : c ≠ a := fun z => by
      obtain ⟨v, u, hu, hd⟩ := I.cell x c e
      rw [z, ga] at hu
      cases hu
      exact hcell v hd
    rw [upd_ne nc]
    exact I.freeC x c e
  · obtain ⟨e, n, ne, nf, d⟩ := I.pin p (by
      rcases List.mem_append.mp hp with z | z
      · exact List.mem_append_left _ z
      · exact List.mem_append_right _ (List.mem_cons_of_mem _ z))
    exact ⟨e, by rw [upd_ne (np p hp)]; exact n, ne, nf, d⟩
  · by_cases hb : b = a
    · subst hb
      rw [upd_same] at e
      cases e
      exact new
    · rw [upd_ne hb] at e
      exact (I.hok b u e).stay (fun c v _ q => q) (fun c q => by rw [upd_ne (ne_of_none q hn)]; exact q) fun c xs q => by rw [upd_ne (ne_of_none q hn)]; exact q
end
/-- what the clause wishes of an exception of the body: slot i is n's, slot m gets it -/
def wKp (K : PySem.W.Frag) (c : Value) (i m : Nat) (D : Ends) : WX := fun cls d σ H =>
  PySem.W.exmOne K cls c = some true ∧ ∀ a, H a = none → D.nx (((σ.set i (some (.ref a))).set m (some (.ref a))).set i none) (upd H a (XO cls d a))
section
variable {X : Cx} {x n mn : Str} {c : Value} {i m : Nat} {body : List Stmt} {np pn' pa pos pos' pm : Pos} {tb : WX → TS}
theorem ps_try_keep (hs : X.stack = X.env :: X.outer) (hf : X.env.frame = some X.env.locals) (hN : X.N.Nodup) (hi : X.N[i]? = some n) (hln : X.env.kindOf n = some .local) (hm : X.N[m]? = some mn) (hlm : X.env.kindOf mn = some .local) (hd : (n == ("__debug__" : Str)) = false) (hcd : (n == ("__classdict__" : Str)) = false)
    (hsw : swapsWith (.Name n pn') (some (.Name mn pm)) pa.line X.env = pure false) (hex : X.ex = [])
    (hc : Names X x c)
    (hb : ∀ (W : WX) (pn : List (Addr × Obj)) (xe : Value → Shared → Prop), Takes (X.tr pn xe) W → PassesOwn (model X.prog X.w) X.A X.env xe → PSs (X.tr pn xe) body (tb W)) :
    PS X (.Try body [.ExceptHandler (some (.Name x np)) (some n) [.Assign [.Name mn pm] (.Name n pn') pa] pos'] [] [] pos) (fun D σ H => tb (wKp X.K c i m D) D σ H) := by
  refine ⟨fun pins s σ H D I h => ?_⟩
  have ok := I.ok
  have hfr : X.A.frames = some (X.env :: X.outer) := by rw [ok.frames, hs]
  have hloc : Loc X.env.scope n := .inl hln
  refine wpAny_Try_except ?_
  refine wpAny_mono ((hb (wKp X.K c i m D) (X.pn ++ pins) (fun e s₁ => wpAny (model X.prog X.w) X.A (noteFrame e X.env) (fun _ s₂ => wpAny (model X.prog X.w) X.A (setFlight e none) (fun _ s₃ =>
    wpAny (model X.prog X.w) X.A (handleBy e X.env [.ExceptHandler (some (.Name x np)) (some n) [.Assign [.Name mn pm] (.Name n pn') pa] pos']) (SP X pins D) X.xe s₃) X.xe s₂) X.xe s₁) (fun u s' xx => ?_) PassesOwn.looking).run [] s σ H D (I.toTry _) h) (fun f s1 hsp => ?_) (fun e s1 he => he)
  · obtain ⟨a, B, sI, pins', σ', H', cls, d, rfl, J', nb, up, sky, na, os, ag, hb1, hyes⟩ := xx
    have J : Inv X pins σ' H' sI := J'.ofTry ok
    have sky' : Sky B (X.env :: X.outer) a (Zc cls d) X.env.locals s'.heap := by rw [← hs]; exact sky
    show wpAny (model X.prog X.w) X.A (noteFrame (.ref a) X.env) _ _ _
    refine Sky.land Zc.steady hfr hf sky' fun h3 fl3 up3 => ?_
    have J3 : Inv X pins σ' H' { s' with heap := h3 } := J.landed nb fl3.1 (up.trans up3) os ag
    obtain ⟨oe3, vs3, he3, hz3, hd3⟩ := fl3.there
    have notFr : ∀ {h : Heap} {o : Obj} {vs : Array Value}, h.FunFrames B (X.env :: X.outer) → h.get? a = some o → o.data = .fields vs → a ∉ frs (X.env :: X.outer) := fun {h o vs} ff e dd hm => by
      obtain ⟨_, o', e', hnf⟩ := ff.mem hm
      rw [e] at e'; cases e'
      exact hnf _ dd
    have nfr := notFr fl3.2.2.1 he3 hd3
    have nL : a ≠ X.env.locals := fun z => nfr (List.mem_filterMap.mpr ⟨X.env, List.mem_cons_self, by rw [hf, z]⟩)
    have nF : a ∉ X.fs := fun hm => by
      obtain ⟨e, he, q⟩ := List.mem_filterMap.mp hm
      exact nfr (List.mem_filterMap.mpr ⟨e, List.mem_cons_of_mem _ he, q⟩)
    have nstk : a ∉ frs X.stack := by rw [hs]; exact nfr
    have Ba : B.get? a = none := fl3.2.1
    have sIa : sI.heap.get? a = none := by
      cases e : sI.heap.get? a with
      | none => rfl
      | some o => have z := nb a o e nstk; rw [Ba] at z; cases z
    have s0a : X.s_0.heap.get? a = none := by
      cases e : X.s_0.heap.get? a with
      | none => rfl
      | some o =>
        obtain ⟨o', z⟩ := J.base.there a o e (by rw [hex]; exact fun z => nomatch z)
        rw [sIa] at z; cases z
    have npin : ∀ p ∈ X.pn ++ pins, p.1 ≠ a := fun p hp z => by
      have q := (J.pin p hp).1
      rw [z, sIa] at q; cases q
    have S3 := J3.suite he3 hd3 na nL nF
    refine wpAny_handleBy_cons (codeAny_handlers_test ?_) (by intro q; cases q)
    have LT : PySem.W.Looks (model X.prog X.w) h3 (typeOf (.ref a)) cls := fun A Q E s k q => wpAny_typeOf_ref (k _ _ he3) (by rw [hz3.1]; exact q)
    have LM := PySem.W.exm_one (M := model X.prog X.w) (J3.kIn) LT hb1
    have test : ∀ {Q : Value → Shared → Prop} {E : Value → Shared → Prop}, Q c { s' with heap := h3 } → wpAny (model X.prog X.w) (X.A.mark (some (.ref a))) (eval (.Name x np) X.env) Q E { s' with heap := h3 } := fun {Q E} q => by
      obtain ⟨hg, hdbg, hm | ⟨hm, hv, hnn⟩⟩ := hc
      · exact ld_glob (X := X.suite a ((a, oe3) :: (X.pn ++ pins))) S3 hg hm q hdbg
      · exact ld_blt (X := X.suite a ((a, oe3) :: (X.pn ++ pins))) S3 hg hm hv q hnn hdbg
    refine test (LM.here ?_)
    refine codeAny_handlers_suite_as ?_
    refine HandSPX.lands_againZ fl3 fun h4 fl4 up4 => ?_
    have J4 : Inv X pins σ' H' { s' with heap := h4 } := J.landed nb fl4.1 ((up.trans up3).trans up4) os ag
    obtain ⟨oe4, vs4, he4, hz4, hd4⟩ := fl4.there
    have S4 := J4.suite he4 hd4 na nL nF
    refine store_ok (X := X.suite a ((a, oe4) :: (X.pn ++ pins))) (v := .ref a) S4 hN hi hloc rfl (fun s5 S5 => ?_) (.inr hln)
    have suite : PSs (X.suite a ((a, oe4) :: (X.pn ++ pins))) [.Assign [.Name mn pm] (.Name n pn') pa] (tAsg (tVar i) (gName m)) := pss_one (ps_set (X := X.suite a ((a, oe4) :: (X.pn ++ pins))) hN hm (.inl hlm) (pe_var (X := X.suite a ((a, oe4) :: (X.pn ++ pins))) hi (.inl hln) hd hcd) hsw (.inr hlm))
    have hil : i < σ'.length := by
      rw [J.len]
      exact (List.getElem?_eq_some_iff.mp hi).1
    refine wpAny_mono (suite.run [] s5 _ H' { nx := fun σ6 H6 => σ6 = (σ'.set i (some (.ref a))).set m (some (.ref a)) ∧ H6 = H', rt := fun _ _ => False } S5 ⟨.ref a, by rw [List.getElem?_set_self hil], rfl, rfl⟩) (fun f s6 hsp => ?_) (fun _ _ z => False.elim z)
    cases f with
    | next =>
      obtain ⟨σ6, H6, S6, rfl, rfl⟩ := hsp
      have S7 := Inv.unsuiteP S6 ok
      refine gone_ok S7 hN hi hln fun s7 J7 => ?_
      obtain ⟨ga, _⟩ := J7.pin (a, oe4) (List.mem_append_right _ List.mem_cons_self)
      have J8 := Inv.track J7 (o := XO cls d a) s0a npin ⟨⟨oe4, vs4, ga, hz4, hd4⟩, ⟨oe4, ga⟩, fun h1 h2 ⟨o, v, e, r⟩ k => ⟨o, v, k o e, r⟩⟩
      exact ⟨_, _, J8, hyes a na⟩
    | brk => obtain ⟨_, _, _, z⟩ := hsp; exact (show False from z).elim
    | cont => obtain ⟨_, _, _, z⟩ := hsp; exact (show False from z).elim
    | ret u => obtain ⟨_, _, _, _, _, z⟩ := hsp; exact (show False from z).elim
  · cases f with
    | next =>
      obtain ⟨σ', H', J', q⟩ := hsp
      exact wpAny_execs_nil ⟨σ', H', J'.ofTry ok, q⟩
    | brk =>
      obtain ⟨σ', H', J', q⟩ := hsp
      exact ⟨σ', H', J'.ofTry ok, q⟩
    | cont =>
      obtain ⟨σ', H', J', q⟩ := hsp
      exact ⟨σ', H', J'.ofTry ok, q⟩
    | ret u =>
      obtain ⟨v, σ', H', J', r, q⟩ := hsp
      exact ⟨v, σ', H', J'.ofTry ok, r, q⟩
end
end L2.DL

set_option Elab.async false
set_option linter.all false
set_option autoImplicit false
set_option maxRecDepth 100000
set_option maxHeartbeats 4000000
/-! try at the level of trees; isinstance and fields of a caught exception; defs as values. -/
namespace L2.DL
open PySem PySem.Spec PyProof.Rows
theorem Glo.inj {K : PySem.W.Frag} {x : Str} {a b : Addr} (h : Glo K x a) (g : Glo K x b) : a = b := by
  unfold Glo at h g
  rw [h] at g
  cases g
  rfl
section
variable {K : PySem.W.Frag} {F : Hp} {γ : Gm} {H0 H : Hp} {σ : St} {env : List Sl} {c : Nat} {gr : Hp}
abbrev Gm.at (γ : Gm) (gr : Hp) : Gm := ⟨γ.g, gr, γ.tb, γ.l⟩
theorem Core.reg (C : Core K F γ H0 H c) : Core K F (γ.at H0) H0 H c := ⟨C.sub, C.frm, C.gau, Same.refl _, C.tbs, C.tb0⟩
theorem Core.unreg (C : Core K F (γ.at gr) H0 H c) (s : Same γ.gr gr) : Core K F γ H0 H c := ⟨C.sub, C.frm, C.gau, s.trans C.grd, C.tbs, C.tb0⟩
theorem Rep.reg (R : Rep K F γ H0 H σ env c) : Rep K F (γ.at H0) H0 H σ env c := ⟨R.core.reg, R.len, fun i o sl h1 h2 => by
  have q := R.at_ i o sl h1 h2
  cases sl <;> exact q, R.dis⟩
theorem Rep.unreg (R : Rep K F (γ.at gr) H0 H σ env c) (s : Same γ.gr gr) : Rep K F γ H0 H σ env c := ⟨R.core.unreg s, R.len, fun i o sl h1 h2 => by
  have q := R.at_ i o sl h1 h2
  cases sl <;> exact q, R.dis⟩
end
/-! ### try -/
/-- env behind a caught exception -/
def kept (env : List Sl) (i m : Nat) (x : XD) : List Sl := (env.set m (.val (.exc x.c x.ks x.vs))).set i .no
def wTry (cs : List Nat) (i m : Nat) (wb : XC → WS) : WS := fun E env c => wb (fun env' x c' => x.c ∈ cs ∧ E.nx (kept env' i m x) c') E env c
section
variable {X : Cx} {F : Hp} {γ : Gm} {x n mn : Str} {CH : Addr} {i m : Nat} {body : List Stmt} {np pn' pa pos pos' pm : Pos} {wb : XC → WS} {cs : List Nat}
theorem dsTry (i m : Nat) (hcs : ∀ c ∈ cs, ∀ C, Glo X.K (exNm c) C → PySem.W.exmOne X.K (.ref C) (.ref CH) = some true) (hmg : X.mg x = some (.ref CH)) (hN : X.N.Nodup)
    (hb : ∀ (gr : Hp) (xc : XC), Same γ.gr gr → ∀ (pn : List (Addr × Obj)) (xe : Value → Shared → Prop), Takes (X.tr pn xe) (wishR X.K F (γ.at gr) xc) → PassesOwn (model X.prog X.w) X.A X.env xe → PSs (X.tr pn xe) body (tS X.K F (γ.at gr) (wb xc)))
    (hs : X.stack = X.env :: X.outer := by rfl) (hf : X.env.frame = some X.env.locals := by rfl) (hi : X.N[i]? = some n := by rfl) (hln : X.env.kindOf n = some .local := by rfl) (hm : X.N[m]? = some mn := by rfl) (hlm : X.env.kindOf mn = some .local := by rfl) (him : i ≠ m := by decide)
    (hd : (n == ("__debug__" : Str)) = false := by decide) (hcd : (n == ("__classdict__" : Str)) = false := by decide)
    (hsw : swapsWith (.Name n pn') (some (.Name mn pm)) pa.line X.env = pure false := by rfl) (hex : X.ex = [] := by rfl) (hg : Gl X x := by rfl) (hdx : (x == ("__debug__" : Str)) = false := by decide) :
    PS X (.Try body [.ExceptHandler (some (.Name x np)) (some n) [.Assign [.Name mn pm] (.Name n pn') pa] pos'] [] [] pos) (tS X.K F γ (wTry cs i m wb)) := by
  have tb : ∀ (W : WX) (pn : List (Addr × Obj)) (xe : Value → Shared → Prop), Takes (X.tr pn xe) W → PassesOwn (model X.prog X.w) X.A X.env xe → PSs (X.tr pn xe) body (fun D σ H => ∃ gr xc, Same γ.gr gr ∧ (∀ cls d σ' H', wishR X.K F (γ.at gr) xc cls d σ' H' → W cls d σ' H') ∧ tS X.K F (γ.at gr) (wb xc) D σ H) :=
    fun W pn xe tk po => ⟨fun pins s σ H D I ⟨gr, xc, sg, hW, h⟩ => (hb gr xc sg pn xe (tk.imp hW) po).run pins s σ H D I h⟩
  refine PS.imp (ps_try_keep hs hf hN hi hln hm hlm hd hcd hsw hex ⟨hg, hdx, .inl hmg⟩ tb) fun E σ H h => ?_
  obtain ⟨H0, env, c, D, R, q, k1, k2, k3, k4⟩ := h
  have g0 := R.core.grd
  refine ⟨H0, _, g0, fun cls d σ' H' hw => ?_, H0, env, c, D, R.reg, q, fun σ' env' c' H' H0' q1 s1 R1 => k1 _ _ _ _ _ q1 s1 (R1.unreg g0), fun d c' v H' H0' q1 s1 C1 h1 => k2 _ _ _ _ _ q1 s1 (C1.unreg g0) h1, fun σ' env' c' H' H0' q1 s1 R1 => k3 _ _ _ _ _ q1 s1 (R1.unreg g0), fun σ' env' c' H' H0' q1 s1 R1 => k4 _ _ _ _ _ q1 s1 (R1.unreg g0)⟩
  obtain ⟨H0', env', c', x, R', ⟨C, dd, fs, hG, rfl, rfl, hfs, hks, hvs⟩, hc, hq⟩ := hw
  refine ⟨hcs _ hc _ hG, fun a ha => ?_⟩
  have R1 := (R'.unreg g0).alloc (o := XO (.ref C) (some dd) a) ha
  have f := Same.new (o := XO (.ref C) (some dd) a) (R'.core.sub.free ha)
  have hx : Has X.K (upd H0' a (XO (.ref C) (some dd) a)) (.ref a) (.exc x.c x.ks x.vs) := .exc hG upd_same (f _ _ hfs) hks (hvs.mono f)
  have e1 : ((σ'.set i (some (.ref a))).set m (some (.ref a))).set i none = (σ'.set m (some (.ref a))).set i none := by
    rw [List.set_comm _ _ him, List.set_set]
  rw [e1]
  exact k1 _ _ _ _ _ hq (R'.core.grd.trans f) ((R1.setVal hx m).setNo i)
end
/-! ### what isinstance asks of a caught exception -/
structure ExI (K : PySem.W.Frag) (C : Addr) : Prop where
  cl : (PySem.W.clsIn K C).isSome = true
  ga : PySem.W.findIn K (.ref C) "__getattribute__" = some (some (.builtin "BaseException.__getattribute__"))
  gg : PySem.W.findIn K (.ref C) "__getattr__" = some none
  exC : PySem.W.subIn K (.ref C) (.type "BaseException") = some true
  ha : PySem.W.findIn K (.ref C) "__class__" = some (some (.builtin "object.__class__"))
  hn : PySem.W.specialIn K (.builtin "object.__class__") "__get__" = some (some (.builtin "getset_descriptor.__get__"))
  ht : PySem.W.takesIn K (.builtin "object.__class__") = some true
  hm : PySem.W.mroIn K C (.type "object") = some true
  hd : PySem.W.hasDictIn K C = true
/-- the class c2 among those of cs: of which of them it tells yes -/
structure IsF (K : PySem.W.Frag) (mg : Str → Option Value) (c2 : Str) (C2 : Addr) (cs : List (Nat × Bool)) : Prop where
  mg : mg c2 = some (.ref C2)
  cl : (PySem.W.clsIn K C2).isSome = true
  ty : PySem.W.typeIn K (.ref C2) = some (.type "type")
  nn : PySem.W.subIn K (.type "NoneType") (.ref C2) = some false
  self : PySem.W.subIn K (.ref C2) (.ref C2) = some true
  each : ∀ p ∈ cs, ∀ C, Glo K (exNm p.1) C → ExI K C ∧ PySem.W.subIn K (.ref C) (.ref C2) = some p.2
def isE (cs : List (Nat × Bool)) : D → (D → Prop) → Prop
  | .non, P => P (.bl false)
  | .exc c _ _, P => ∃ b, (c, b) ∈ cs ∧ P (.bl b)
  | _, _ => False
def wIsE (cs : List (Nat × Bool)) (w : WE) : WE := fun env c P => w env c fun d c1 => isE cs d fun r => P r c1
theorem xo_at {X : Cx} {pins : List (Addr × Obj)} {σ : St} {H : Hp} {s : Shared} {a : Addr} {cls : Value} {d : Option Addr} (I : Inv X pins σ H s) (h : H a = some (XO cls d a)) : ∃ (oe : Obj) (vs : Array Value), s.heap.get? a = some oe ∧ Zc cls d oe ∧ oe.data = .fields vs := by
  have x : ObjOk X.prog X.w H s.heap a (.ext fun h => ∃ (oe : Obj) (vs : Array Value), h.get? a = some oe ∧ Zc cls d oe ∧ oe.data = .fields vs) := I.hok a _ h
  exact x.1
theorem inst_at {X : Cx} {pins : List (Addr × Obj)} {σ : St} {H : Hp} {s : Shared} {a C dd : Addr} {fs : List (Str × V)} (I : Inv X pins σ H s) (h : H a = some (XO (.ref C) (some dd) a)) (hd : H dd = some (.xd fs)) : ∃ oe od, PySem.W.InstAt s.heap a oe C (some od) ∧ s.heap.get? dd = some od ∧ (∃ mA, s.heap.Ns1 dd mA ∧ ∀ f, RelO (fs.lookup f) (mA f)) := by
  obtain ⟨oe, vs, e, z, q⟩ := xo_at I h
  obtain ⟨mA, hns, hr⟩ := (show ObjOk X.prog X.w H s.heap dd (.xd fs) from I.hok dd _ hd)
  obtain ⟨od, ho, hl⟩ := lookIn_ns hns
  exact ⟨oe, od, ⟨e, z.1, by unfold PySem.W.notCls; rw [q] <;> rfl, by rw [z.2]; exact ho⟩, ho, mA, hns, hr⟩
def rIsE2 (K : PySem.W.Frag) (C2 : Addr) : List V → Hp → VK → Prop := fun xs H Q => ∃ (x : V), xs = [x, .ref C2] ∧
  ((x = .non ∧ PySem.W.kitOne K (.type "NoneType") (.ref C2) = some false ∧ Q (.bl false) H) ∨
    ∃ (a C dd : Addr) (fs : List (Str × V)) (b : Bool), x = .ref a ∧ H a = some (XO (.ref C) (some dd) a) ∧ H dd = some (.xd fs) ∧ ExI K C ∧ PySem.W.kitOne K (.ref C) (.ref C2) = some b ∧ Q (.bl b) H)
theorem call_isE2 {X : Cx} {C2 : Addr} : CallR X (.builtin "isinstance") (rIsE2 X.K C2) := by
  intro pins s σ H xs us Q I r h
  obtain ⟨x, rfl, h⟩ := h
  obtain ⟨u1, u2, rfl, r1, r2⟩ := vals2 r
  obtain rfl : u2 = Value.ref C2 := r2
  rcases h with ⟨rfl, e, q⟩ | ⟨a, C, dd, fs, b, rfl, ha, hd, T, e, q⟩
  · obtain rfl : u1 = Value.none := r1
    exact PySem.W.kia_one PySem.W.kitx_none I.kIn True.intro e (fun z => nomatch z) fun tk => ⟨.bl false, H, I.tok tk, rfl, q⟩
  · obtain rfl : u1 = Value.ref a := r1
    obtain ⟨oe, od, J, _⟩ := inst_at I ha hd
    exact PySem.W.kia_one (PySem.W.kitx_exc T.cl T.ga T.gg T.exC T.ha T.hn T.ht T.hm) I.kIn J e (fun z => nomatch z) fun tk => ⟨.bl b, H, I.tok tk, rfl, q⟩
theorem kit_refs {K : PySem.W.Frag} {C C2 : Addr} {b : Bool} (cl : (PySem.W.clsIn K C2).isSome = true) (ty : PySem.W.typeIn K (.ref C2) = some (.type "type")) (h : PySem.W.subIn K (.ref C) (.ref C2) = some b) (hb : C = C2 → b = true) : PySem.W.kitOne K (.ref C) (.ref C2) = some b := by
  unfold PySem.W.kitOne
  split
  · rename_i z
    have e : C = C2 := Value.ref.inj (beq_iff_eq.mp z)
    rw [hb e]
  · show (if ((PySem.W.clsIn K C2).isSome && PySem.W.typeIn K (.ref C2) == some (.type "type")) = true then PySem.W.subIn K (.ref C) (.ref C2) else none) = some b
    rw [if_pos (by rw [cl, ty]; rfl)]
    exact h
theorem kit_non {K : PySem.W.Frag} {C2 : Addr} (cl : (PySem.W.clsIn K C2).isSome = true) (ty : PySem.W.typeIn K (.ref C2) = some (.type "type")) (h : PySem.W.subIn K (.type "NoneType") (.ref C2) = some false) : PySem.W.kitOne K (.type "NoneType") (.ref C2) = some false := by
  unfold PySem.W.kitOne
  rw [if_neg (by simp)]
  show (if ((PySem.W.clsIn K C2).isSome && PySem.W.typeIn K (.ref C2) == some (.type "type")) = true then PySem.W.subIn K (.type "NoneType") (.ref C2) else none) = some false
  rw [if_pos (by rw [cl, ty]; rfl)]
  exact h
section
variable {X : Cx} {F : Hp} {γ : Gm} {pos p p2 : Pos} {a : Expr} {wa : WE} {c2 : Str} {C2 : Addr} {cs : List (Nat × Bool)}
theorem dIsE (hc : IsF X.K X.mg c2 C2 cs) (hm : X.mg "isinstance" = none) (ha : PE X a (tG X.K F γ wa)) (hg : Gl X "isinstance" := by rfl) (hg2 : Gl X c2 := by rfl) (hdb : (c2 == ("__debug__" : Str)) = false := by decide)
    (hs : starEach [a, .Name c2 p2] X.env = (false, eval a X.env) :: starEach [.Name c2 p2] X.env := by rfl) (hs2 : starEach [.Name c2 p2] X.env = (false, eval (.Name c2 p2) X.env) :: starEach [] X.env := by rfl) (hpl : (backTo pos (starEach [.Name c2 p2] X.env)).any (·.1) = false := by rfl) :
    PE X (.Call (.Name "isinstance" p) [a, .Name c2 p2] [] pos) (tG X.K F γ (wIsE cs wa)) := by
  refine PE.imp (pe_callB (call_isE2 (C2 := C2)) hg hm (by decide +kernel) (pa_cons ha (pa_cons (pe_glob (v := .ref C2) hg2 hc.mg rfl hdb) pa_nil hs2) hs) (by decide) (by decide) hs hpl) fun σ H Q h => ?_
  obtain ⟨H0, env, c, P, R, q, k⟩ := h
  refine ⟨H0, env, c, _, R, q, fun d c1 v H1 H01 q1 s1 R1 h1 => ?_⟩
  cases h1 with
  | non => exact ⟨.non, rfl, .inl ⟨rfl, kit_non hc.cl hc.ty hc.nn, k _ _ _ _ _ q1 s1 R1 (.bl _)⟩⟩
  | @exc ea C dd c' fs ks ds hG hx hd _ _ =>
    obtain ⟨b, hb, q2⟩ := q1
    obtain ⟨T, hsub⟩ := hc.each _ hb C hG
    exact ⟨_, rfl, .inr ⟨ea, C, dd, fs, b, rfl, R1.core.sub _ _ hx, R1.core.sub _ _ hd, T, kit_refs hc.cl hc.ty hsub (fun e => by
      subst e
      rw [hc.self] at hsub
      exact (Option.some.inj hsub).symm), k _ _ _ _ _ q2 s1 R1 (.bl _)⟩⟩
  | _ => exact (show False from q1).elim
end
/-! ### a field of a caught exception -/
structure AtF (K : PySem.W.Frag) (f : Str) (cs : List Nat) : Prop where
  each : ∀ c ∈ cs, ∀ C, Glo K (exNm c) C → ExI K C ∧ PySem.W.findIn K (.ref C) f = some none
def atE (cs : List Nat) (f : Nat) : D → (D → Prop) → Prop
  | .exc c ks vs, P => c ∈ cs ∧ (∀ k ∈ ks, k < 6) ∧ ∃ d, (ks.zip vs).lookup f = some d ∧ P d
  | _, _ => False
def wAtE (cs : List Nat) (f : Nat) (w : WE) : WE := fun env c P => w env c fun d c1 => atE cs f d fun r => P r c1
theorem lookup_map {f : Nat} {d : D} {K : PySem.W.Frag} {H : Hp} (inj : ∀ a b : Nat, a < 6 → b < 6 → fdNm a = fdNm b → a = b) (hf : f < 6) : ∀ {fs : List (Str × V)} {ks : List Nat} {ds : List D}, fs.map (·.1) = ks.map fdNm → (∀ k ∈ ks, k < 6) → HasL K H (fs.map (·.2)) ds → (ks.zip ds).lookup f = some d → ∃ v, fs.lookup (fdNm f) = some v ∧ Has K H v d
  | [], [], _, _, _, _, h => by simp at h
  | [], _ :: _, _, e, _, _, _ => by simp at e
  | (x, v) :: fs, [], _, e, _, _, _ => by simp at e
  | (x, v) :: fs, k :: ks, [], _, _, hh, _ => by cases hh
  | (x, v) :: fs, k :: ks, d' :: ds, e, hk, hh, h => by
    rw [List.map_cons, List.map_cons] at e
    obtain ⟨e1, e2⟩ := List.cons.inj e
    cases hh with
    | cons h1 h2 =>
      rw [List.zip_cons_cons] at h
      by_cases z : f = k
      · subst z
        simp [List.lookup] at h
        subst h
        refine ⟨v, ?_, h1⟩
        have e1' : x = fdNm f := e1
        simp [List.lookup, e1']
      · have z' : (f == k) = false := by simpa using z
        simp only [List.lookup, z'] at h
        obtain ⟨u, hu, hh⟩ := lookup_map inj hf e2 (fun k hk' => hk k (List.mem_cons_of_mem _ hk')) h2 h
        refine ⟨u, ?_, hh⟩
        have e1' : x = fdNm k := e1
        have n : (fdNm f == x) = false := by
          rw [e1']
          exact beq_false_of_ne fun q => z (inj f k hf (hk k List.mem_cons_self) q)
        simp only [List.lookup, n]
        exact hu
theorem fd_inj : ∀ a b : Nat, a < 6 → b < 6 → fdNm a = fdNm b → a = b := by
  intro a b ha hb h
  have key : ∀ a : Fin 6, ∀ b : Fin 6, fdNm a.1 = fdNm b.1 → a = b := by decide
  exact congrArg Fin.val (key ⟨a, ha⟩ ⟨b, hb⟩ h)
section
variable {X : Cx} {F : Hp} {γ : Gm} {pos : Pos} {e : Expr} {we : WE} {te : TE} {f : Str} {fc : Nat} {cs : List Nat}
theorem dAtE (nm : fdNm fc = f) (hfc : fc < 6) (T : AtF X.K f cs) (he : PE X e (tG X.K F γ we)) (hb : attributeBase e f X.env (eval e X.env) = eval e X.env := by rfl) :
    PE X (.Attribute e f pos) (tG X.K F γ (wAtE cs fc we)) := by
  refine ⟨fun pins s σ H Q I h => ?_⟩
  obtain ⟨H0, env, c, P, R, q, k⟩ := h
  have h' : tG X.K F γ we σ H fun x H1 => ∃ (a C dd : Addr) (fs : List (Str × V)) (v : V), x = .ref a ∧ H1 a = some (XO (.ref C) (some dd) a) ∧ H1 dd = some (.xd fs) ∧ fs.lookup f = some v ∧ ExI X.K C ∧ PySem.W.findIn X.K (.ref C) f = some none ∧ Q v H1 := by
    refine ⟨H0, env, c, _, R, q, fun d c1 v H1 H01 q1 s1 R1 h1 => ?_⟩
    cases h1 with
    | @exc ea C dd c' fs ks ds hG hx hd hks hvs =>
      obtain ⟨hc, hk6, d, hl, q2⟩ := q1
      obtain ⟨T1, T2⟩ := T.each _ hc C hG
      obtain ⟨u, hu, hh⟩ := lookup_map (f := fc) (d := d) fd_inj hfc hks hk6 hvs hl
      rw [nm] at hu
      exact ⟨ea, C, dd, fs, u, rfl, R1.core.sub _ _ hx, R1.core.sub _ _ hd, hu, T1, T2, k _ _ _ _ _ q2 s1 R1 hh⟩
    | _ => exact (show False from q1).elim
  refine attr_of hb (thn (he.run pins s σ H _ I h') fun u s1 hh => ?_)
  obtain ⟨x, H1, I1, rx, a, C, dd, fs, v, ex, hx, hd, l, T1, T2, q⟩ := hh
  subst ex
  obtain rfl : u = Value.ref a := rx
  obtain ⟨oe, od, J, _, mA, hns, hr⟩ := inst_at I1 hx hd
  obtain ⟨od', ho', hl⟩ := lookIn_ns hns
  obtain ⟨u, hu, ru⟩ := RelO.some_of (v := v) (o := mA f) (by rw [← l]; exact hr f)
  have J' : PySem.W.InstAt s1.heap a oe C (some od') := by
    obtain ⟨oe2, vs, e, z, qd⟩ := xo_at I1 hx
    have e3 : oe = oe2 := Option.some.inj (J.at_.symm.trans e)
    subst e3
    exact ⟨e, z.1, by unfold PySem.W.notCls; rw [qd] <;> rfl, by rw [z.2]; exact ho'⟩
  exact HandSPX.exc_get I1.kIn J' T1.ga T1.gg T1.exC (PySem.W.findObj_own T1.hd T2 rfl (by rw [hl, hu])) (handed_of ru) ⟨v, H1, I1.tok _, ru, q⟩
end
end L2.DL

set_option Elab.async false
set_option linter.all false
set_option autoImplicit false
set_option maxRecDepth 100000
set_option maxHeartbeats 4000000
/-! Lambdas: made, called by the def that got them. -/
namespace L2.DL
open PySem PySem.Spec PyProof.Rows LamX
/-- all but the tables stays -/
def ExtT (T : List (Addr × Str)) (H H' : Hp) : Prop := ∀ b o, H b = some o → (∀ p ∈ T, p.1 ≠ b) → H' b = some o
theorem ExtT.refl {T : List (Addr × Str)} (H : Hp) : ExtT T H H := fun _ _ h _ => h
section
variable {X : Cx} {pins : List (Addr × Obj)} {σ : L2.St} {H : Hp} {s : Shared}
theorem lam_mk {T : List (Addr × Str)} {c P : Addr} {params : Arguments} {body : Expr} {scope : Scope} {pos : Pos} {dV : Value} {E : Value → Shared → Prop} {Q : Value → Shared → Prop} (I : Inv X pins σ H s) (TB : TabB X.base X.mg c P) (hcode : X.env.code = .ref c)
    (hm : (P, X.env.qual ++ "<lambda>") ∈ T) (hu : ∀ p ∈ T, p.1 = P → p.2 = X.env.qual ++ "<lambda>") (hT : Tabs T H) (hfree : ∀ y ∈ scope.names, y.2 = .free → ∃ c, X.env.cells.lookup y.1 = some c)
    (h : ∀ (f c' : Addr) (doc pm ctv : Value) (H1 : Hp) (s' : Shared), Inv X pins σ H1 s' → ExtT T H H1 → Tabs T H1 → (∀ b o, b ≠ P → s.heap.get? b = some o → s'.heap.get? b = some o) → (∀ b, b < s.heap.objs.size → H b = none → H1 b = none) →
      s'.heap.get? f = some (PySem.W.kdv_obj "<lambda>" (X.env.qual ++ "<lambda>") params (.expr body) scope (cloFrom X.env.cells scope.names []) dV doc pm c' ctv) → H1 f = none → f ∉ frs X.stack → H1 c' = some (CodeO c' (X.env.qual ++ "<lambda>")) → Q (.ref f) s') :
    wpAny (model X.prog X.w) X.A (PySem.makeTail "<lambda>" (X.env.qual ++ "<lambda>") params (.expr body) scope X.env dV .none none pos pos.line) Q E s := by
  obtain ⟨ps, hP, ht, ha⟩ := hT _ hm
  have bP : s.heap.BuiltinsAt X.mg P := TB.bm.keeps I.bk
  have hP' : s.heap.get? P = some { cls := .none, data := .fields ps } := I.hok P _ hP
  have nofr : ∀ f, s.heap.objs.size ≤ f → f ∉ frs X.stack := fun f hf z => by
    rcases List.mem_cons.mp (I.stkSub _ z) with e | e
    · have h1 := I.lt
      rw [← e] at h1
      exact Nat.lt_irrefl _ (Nat.lt_of_lt_of_le h1 hf)
    · exact I.nofs hf e
  cases hc : codeAmong pos ps.toList with
  | none =>
    refine PySem.W.kdv_makeTail (mg := X.mg) (c := c) (P := P) (ps := ps) (L2.closure_ok hfree) I.ok.glob (I.mod.glob.keeps I.bk) hcode (TB.code.keeps I.bk) hP' ht hc TB.gP bP fun c' ctv doc h' tk hx hge hlt hrec htb => ?_
    obtain ⟨c2, oc, vs, t, e2, hoc, hd, hv⟩ := hrec
    cases e2
    have hsz : s.heap.objs.size ≤ h'.objs.size := Nat.le_trans hge (Nat.le_of_lt hlt)
    have nC : H c' = none := I.hok.fresh hge
    have I1 := inv_table (t' := tk) (more := #[rawInt pos.line, rawInt pos.col, .ref c']) (h' := h'.push (PySem.W.kdv_obj "<lambda>" (X.env.qual ++ "<lambda>") params (.expr body) scope (cloFrom X.env.cells scope.names []) dV doc ((X.mg "__name__").getD .none) c' ctv)) I hP
      (fun b o hb e => Heap.get?_push_of_some _ (hx b o hb e)) (Heap.get?_push_of_some _ htb) hge ⟨oc, vs, t, Heap.get?_push_of_some _ hoc, hd, hv⟩
    have hPT : ∀ b, (∀ p ∈ T, p.1 ≠ b) → b ≠ P := fun b n z => n _ hm z.symm
    have hE : ExtT T H (upd (upd H P (.tbl (ps ++ #[rawInt pos.line, rawInt pos.col, .ref c']))) c' (CodeO c' (X.env.qual ++ "<lambda>"))) := fun b o e n => by
      rw [upd_ne (ne_of_none e nC), upd_ne (hPT b n)]
      exact e
    have eL : (ps ++ #[rawInt pos.line, rawInt pos.col, .ref c']).toList = ps.toList ++ [rawInt pos.line, rawInt pos.col, .ref c'] := by simp
    have hCo : ∀ c0 q, H c0 = some (CodeO c0 q) → c0 ≠ P := fun c0 q e z => by
      rw [z, hP] at e
      cases e
    refine h h'.objs.size c' doc ((X.mg "__name__").getD .none) ctv _ _ I1 hE (fun p hp => ?_) (fun b o hb e => Heap.get?_push_of_some _ (hx b o hb e)) (fun b hb n => ?_) (Heap.get?_push_size _ rfl) ?_ (nofr _ hsz) upd_same
    · by_cases hb : p.1 = P
      · rw [hu p hp hb, hb]
        refine ⟨_, by rw [upd_ne (ne_of_none hP nC), upd_same], by rw [eL]; exact PySem.TriplesOk_snoc _ _ _ _ ht, fun p' cv hcv => ?_⟩
        rw [eL] at hcv
        rcases among_app _ ht hcv with z | z
        · obtain ⟨c0, e1, e2⟩ := ha p' cv z
          exact ⟨c0, e1, by rw [upd_ne (ne_of_none e2 nC), upd_ne (hCo _ _ e2)]; exact e2⟩
        · exact ⟨c', z, upd_same⟩
      · obtain ⟨ps', a1, a2, a3⟩ := hT p hp
        refine ⟨ps', by rw [upd_ne (ne_of_none a1 nC), upd_ne hb]; exact a1, a2, fun p' cv hcv => ?_⟩
        obtain ⟨c0, e1, e2⟩ := a3 p' cv hcv
        exact ⟨c0, e1, by rw [upd_ne (ne_of_none e2 nC), upd_ne (hCo _ _ e2)]; exact e2⟩
    · have n1 : b ≠ c' := Nat.ne_of_lt (Nat.lt_of_lt_of_le hb hge)
      have n2 : b ≠ P := fun z => by rw [z, hP] at n; cases n
      rw [upd_ne n1, upd_ne n2]
      exact n
    · have n1 : h'.objs.size ≠ c' := Nat.ne_of_gt hlt
      have n2 : h'.objs.size ≠ P := Nat.ne_of_gt (Nat.lt_of_lt_of_le (Heap.lt_size hP') hsz)
      rw [upd_ne n1, upd_ne n2]
      exact I.hok.fresh hsz
  | some cv =>
    obtain ⟨c', e, hco⟩ := ha pos cv hc
    subst e
    refine PySem.W.kdv_makeTailHit (mg := X.mg) (c := c) (P := P) (ps := ps) (L2.closure_ok hfree) I.ok.glob (I.mod.glob.keeps I.bk) hcode (TB.code.keeps I.bk) hP' ht hc bP fun ctv doc h' tk hx hsz => ?_
    have I1 : Inv X pins σ H { s with heap := h'.push (PySem.W.kdv_obj "<lambda>" (X.env.qual ++ "<lambda>") params (.expr body) scope (cloFrom X.env.cells scope.names []) dV doc ((X.mg "__name__").getD .none) c' ctv), toks := tk } := I.kept fun b o e => Heap.get?_push_of_some _ (hx b o e)
    exact h h'.objs.size c' doc ((X.mg "__name__").getD .none) ctv H _ I1 (ExtT.refl H) hT (fun b o _ e => Heap.get?_push_of_some _ (hx b o e)) (fun _ _ n => n) (Heap.get?_push_size _ rfl) (I.hok.fresh hsz) (nofr _ hsz) hco
/-- the defaults of the lambda at dV -/
def DefAt (h : Heap) (H : Hp) (fs : List Addr) (dV : Value) (dv : List Value) : Prop := (dv = [] ∧ dV = .none) ∨ ∃ t, dV = .ref t ∧ h.get? t = some (PySem.W.kdv_tup dv) ∧ H t = none ∧ t ∉ fs
/-- no default, or one int -/
def DefOf (params : Arguments) (env : Env) (n : Nat) : Prop := (n = 0 ∧ defaultsOf params env = ([], [])) ∨ (n = 1 ∧ params.kw_defaults = [] ∧ params.defaults.isEmpty = false ∧ ∃ (z : Int) (j : Nat) (p : Pos), params.defaults = [.Constant (.int z) j p])
theorem lam_make {T : List (Addr × Str)} {c P : Addr} {params : Arguments} {body : Expr} {scope : Scope} {pos : Pos} {n : Nat} {Q : Value → Shared → Prop} (I : Inv X pins σ H s) (TB : TabB X.base X.mg c P) (hcode : X.env.code = .ref c)
    (hm : (P, X.env.qual ++ "<lambda>") ∈ T) (hu : ∀ p ∈ T, p.1 = P → p.2 = X.env.qual ++ "<lambda>") (hT : Tabs T H) (hdef : DefOf params X.env n) (hfree : ∀ y ∈ scope.names, y.2 = .free → ∃ c, X.env.cells.lookup y.1 = some c)
    (h : ∀ (f c' : Addr) (dV doc pm ctv : Value) (dv : List Value) (H1 : Hp) (s' : Shared), Inv X pins σ H1 s' → ExtT T H H1 → Tabs T H1 → dv.length = n → DefAt s'.heap H1 (frs X.stack) dV dv →
      s'.heap.get? f = some (PySem.W.kdv_obj "<lambda>" (X.env.qual ++ "<lambda>") params (.expr body) scope (cloFrom X.env.cells scope.names []) dV doc pm c' ctv) → H1 f = none → f ∉ frs X.stack → H1 c' = some (CodeO c' (X.env.qual ++ "<lambda>")) → Q (.ref f) s') :
    wpAny (model X.prog X.w) X.A (eval (.Lambda params body scope pos) X.env) Q X.xe s := by
  rcases hdef with ⟨rfl, hdef⟩ | ⟨rfl, hk0, hne, z, j, p, hd⟩
  · refine PySem.W.kla_eval hdef ?_
    rw [PySem.makeFunction_eq]
    simp only [List.zip_nil_right, List.filterMap_nil, List.isEmpty_nil, if_true, pure_bind]
    exact lam_mk I TB hcode hm hu hT hfree fun f c' doc pm ctv H1 s' I1 e1 t1 _ _ g1 g2 g3 g4 => h f c' .none doc pm ctv [] H1 s' I1 e1 t1 rfl (.inl ⟨rfl, rfl⟩) g1 g2 g3 g4
  · refine PySem.W.kdv_lam hne hk0 ?_
    rw [hd]
    refine PySem.W.kdv_all1 (wpAny_mono ((pe_int (X := X)).run pins s σ H (fun v H' => v = .int z ∧ H' = H) I ⟨rfl, rfl⟩) (fun u s1 hu1 => ?_) (fun e s' hz => ?_))
    · obtain ⟨v, H1, I1, r1, rfl, rfl⟩ := hu1
      obtain ⟨tk, rfl⟩ := r1
      refine PySem.W.kdv_all0 ?_
      rw [PySem.makeFunction_eq]
      simp only [List.zip_nil_right, List.filterMap_nil, List.isEmpty_nil, if_true, pure_bind, List.isEmpty_cons, Bool.false_eq_true, if_false]
      refine wpAny_bind (wpAny_newTextTuple ?_)
      have I2 : Inv X pins σ H1 { s1 with heap := s1.heap.push (PySem.W.kdv_tup [.int z tk]) } := I1.kept (t' := s1.toks) fun b o e => Heap.get?_push_of_some _ e
      have ht0 : (s1.heap.push (PySem.W.kdv_tup [.int z tk])).get? s1.heap.objs.size = some (PySem.W.kdv_tup [.int z tk]) := Heap.get?_push_at rfl rfl
      have hPn : ∀ ps, H1 P = some (.tbl ps) → s1.heap.objs.size ≠ P := fun ps e q => by
        have z := I1.hok.fresh (Nat.le_refl s1.heap.objs.size)
        rw [q, e] at z; cases z
      obtain ⟨ps, hP, _⟩ := hT _ hm
      refine lam_mk I2 TB hcode hm hu hT hfree fun f c' doc pm ctv H2 s' J e1 t1 k1 k2 g1 g2 g3 g4 => h f c' (.ref s1.heap.objs.size) doc pm ctv [.int z tk] H2 s' J e1 t1 rfl (.inr ⟨_, rfl, k1 _ _ (hPn ps hP) ht0, k2 _ (by rw [Heap.size_push]; exact Nat.lt_succ_self _) (I1.hok.fresh (Nat.le_refl _)), fun zz => ?_⟩) g1 g2 g3 g4
      rcases List.mem_cons.mp (I1.stkSub _ zz) with e | e
      · have h1 := I1.lt
        rw [← e] at h1
        exact Nat.lt_irrefl _ h1
      · exact I1.nofs (Nat.le_refl _) e
    · exact hz
end
end L2.DL

set_option Elab.async false
set_option linter.all false
set_option autoImplicit false
set_option maxRecDepth 100000
set_option maxHeartbeats 4000000
/-! x(lambda: e): the def x calls what it got in a try. -/
namespace L2.DL
open PySem PySem.Spec PyProof.Rows LamX
/-- the lambda's names: captured ones and globals; parameters that no slot has -/
structure LamN (sc scope : Scope) (N ns : List Str) : Prop where
  kind : scope.kind = .function
  co : scope.isCoroutine = false
  gen : scope.isGenerator = false
  own : ∀ y ∈ scope.names, y.2 ≠ .cell ∧ (y.2 = .local → y.1 ∉ N)
  loc : ∀ x ∈ ns, scope.names.lookup x = some .local
  free : ∀ y ∈ scope.names, y.2 = .free → sc.names.lookup y.1 = some .cell ∨ sc.names.lookup y.1 = some .free
def lamNB (sc scope : Scope) (N ns : List Str) : Bool :=
  decide (scope.kind = .function) && !scope.isCoroutine && !scope.isGenerator && (scope.names.all fun y => !decide (y.2 = .cell) && (!decide (y.2 = .local) || !N.contains y.1) && (!decide (y.2 = .free) || decide (sc.names.lookup y.1 = some .cell) || decide (sc.names.lookup y.1 = some .free))) && ns.all fun x => decide (scope.names.lookup x = some .local)
theorem lamN_by {sc scope : Scope} {N ns : List Str} (h : lamNB sc scope N ns = true) : LamN sc scope N ns := by
  unfold lamNB at h
  simp only [Bool.and_eq_true, Bool.or_eq_true, Bool.not_eq_true', decide_eq_true_eq, decide_eq_false_iff_not, List.all_eq_true] at h
  obtain ⟨⟨⟨⟨h1, h2⟩, h3⟩, h4⟩, h5⟩ := h
  refine ⟨h1, h2, h3, fun y hy => ⟨(h4 y hy).1.1, fun e hm => ?_⟩, h5, fun y hy e => ?_⟩
  · rcases (h4 y hy).1.2 with z | z
    · exact z e
    · have : N.contains y.1 = true := by simpa using hm
      rw [this] at z; cases z
  · rcases (h4 y hy).2 with (z | z) | z
    · exact absurd e z
    · exact .inl z
    · exact .inr z
theorem LamN.has {X : Cx} {scope : Scope} {ns : List Str} (L : LamN X.env.scope scope X.N ns) (ok : X.Ok) : ∀ y ∈ scope.names, y.2 = .free → ∃ c, X.env.cells.lookup y.1 = some c := fun y hy e => by
  rcases L.free y hy e with k | k
  · exact ok.has _ (.inl k)
  · exact ok.has _ (.inr k)
section
variable {X : Cx} {pins : List (Addr × Obj)} {σ : L2.St} {H HZ : Hp} {s s1 : Shared}
theorem lam_startN {A : Around} {outer : List Env} {E : XK} {scope : Scope} {ns : List Str} {f c' : Addr} {h₁ : Heap} {tk : Nat} {m : Str → Option Value} (I : Inv X pins σ H s) (L : LamN X.env.scope scope X.N ns) (e0 : Env0 X.prog X.w X.K X.mg X.base A outer s1 HZ) (hd : A.handled = none)
    (un : Un (frs X.stack) [] H HZ s.heap s1.heap) (hns : h₁.Ns s1.heap.objs.size m) (kp : ∀ b o, s1.heap.get? b = some o → h₁.get? b = some o) :
    Inv (lamCx X A outer s1 HZ E scope f c') [] σ HZ { s1 with heap := h₁, toks := tk } := by
  have hfree := L.has I.ok
  have cm : ∀ {y c}, (cloFrom X.env.cells scope.names []).lookup y = some c → X.env.cells.lookup y = some c := fun {y c} e => by
    rcases cloFrom_mem (PySem.mem_of_lookup e) with hm | ⟨h1, h2⟩
    · cases hm
    · obtain ⟨c1, hc⟩ := hfree _ h1 rfl
      have hc : X.env.cells.lookup y = some c1 := hc
      have e2 : c = c1 := by
        rw [h2, hc] <;> rfl
      rw [e2]
      exact hc
  have look : ∀ {y}, scope.names.lookup y = some .free → ∃ c, (cloFrom X.env.cells scope.names []).lookup y = some c := fun {y} hl => by
    have hy : (y, NameKind.free) ∈ scope.names := PySem.mem_of_lookup hl
    exact mem_lookup (cloFrom_has (cells := X.env.cells) (acc := []) hy)
  have cellK : ∀ {c : Addr} {v : Option Value}, H c = none → s.heap.IsCell c v → h₁.IsCell c v := fun {c v} n ⟨o, ho, hd⟩ => by
    obtain ⟨sl, q⟩ := un.any ho n (by simp)
    exact ⟨_, kp _ _ q, hd⟩
  have noA : ∀ b : Addr, b ∉ (lamCx X A outer s1 HZ E scope f c').ex := fun b z => absurd (show b ∈ ([] : List Addr) from z) (by simp)
  refine ⟨⟨e0.mod, L.kind, rfl, rfl, Nat.le_refl _, fun y z c e1 e2 => I.ok.inj y z c (cm e1) (cm e2), fun y hy => ?_, fun y c z _ => ?_, fun _ => hd, Around.frames_deeper e0.frames, .inr ⟨rfl, rfl⟩, fun b z => absurd z (noA b), e0.bs, e0.bsz, fun b _ _ => noA b,
      fun b z => absurd z (noA b), e0.funs, e0.frf⟩,
    rfl, e0.bare, Un.kept kp, ⟨_, hns, fun i y v e1 e2 e3 => ?_⟩, fun y c e => ?_, e0.hok.fresh (Nat.le_refl _), fun y c e => ?_, fun q hq => absurd (show q ∈ ([] : List (Addr × Obj)) ++ [] from hq) (by simp), e0.hok.kept kp, I.len⟩
  · have hy : scope.names.lookup y = some .cell ∨ scope.names.lookup y = some .free := hy
    rcases hy with hy | hy
    · exact absurd rfl (L.own _ (PySem.mem_of_lookup hy)).1
    · exact look hy
  · have z : false = true := z
    cases z
  · have e3 : Vis scope y := e3
    rcases e3 with k | k | k
    · exact absurd (List.mem_of_getElem? e1) ((L.own _ (PySem.mem_of_lookup k)).2 rfl)
    · exact absurd rfl (L.own _ (PySem.mem_of_lookup k)).1
    · obtain ⟨m, hn, hl⟩ := I.loc
      have hvis : Vis X.env.scope y := (L.free _ (PySem.mem_of_lookup k) rfl).elim (fun k => .inr (.inl k)) (fun k => .inr (.inr k))
      obtain ⟨w', r, q⟩ := hl i y v e1 e2 hvis
      obtain ⟨c2, h2⟩ := look k
      refine ⟨w', r, .inr ⟨.inr k, c2, h2, ?_⟩⟩
      have c1 := cm h2
      rcases q with ⟨k', _⟩ | ⟨_, c3, e', z⟩
      · have k' : X.env.scope.names.lookup y = some .local := k'
        rcases L.free _ (PySem.mem_of_lookup k) rfl with k2 | k2 <;> rw [show X.env.scope.names.lookup y = _ from k2] at k' <;> cases k'
      · rw [c1] at e'
        cases e'
        exact cellK (I.freeC y _ c1) z
  · obtain ⟨w', z⟩ := I.cell y c (cm e)
    exact ⟨w', cellK (I.freeC y c (cm e)) z⟩
  · obtain ⟨v, o, ho, hd⟩ := I.cell y c (cm e)
    exact un.free c o ho (I.freeC y c (cm e)) (by simp)
/-- how the lambda's parameters are bound by their defaults -/
def LamBinds (params : Arguments) (body : Expr) (scope : Scope) (ns : List Str) : Prop :=
  ∀ (s : Shared) (q : Str) (cl : List (Str × Addr)) (dV doc pm cv ctv : Value) (dv : List Value), dv.length = ns.length → ((dv = [] ∧ dV = .none) ∨ ∃ t, dV = .ref t ∧ s.heap.get? t = some (PySem.W.kdv_tup dv)) →
    BindsTo s (PySem.W.kdv_fn "<lambda>" q params (.expr body) scope cl dV doc pm cv ctv) ⟨[], []⟩ (ns.zip dv)
/-- x(), in the def that got the lambda -/
theorem pe_actN {CXg : CXT} {Eg : XK} {Ng : List Str} {qg : Str} {sg : Scope} {g f c' : Addr} {cdg dV doc pm ctv : Value} {dv : List Value} {params : Arguments} {body : Expr} {scope : Scope} {ns : List Str} {k i : Nat} {a : Str} {pn : List (Addr × Obj)} {xe : Value → Shared → Prop} {W : WX} {tb : XK → TE} {p1 p2 : Pos}
    (I : Inv X pins σ H s) (L : LamN X.env.scope scope X.N ns) (hf : s.heap.get? f = some (PySem.W.kdv_obj "<lambda>" (X.env.qual ++ "<lambda>") params (.expr body) scope (cloFrom X.env.cells scope.names []) dV doc pm c' ctv)) (hfn : H f = none) (hfr : f ∉ frs X.stack)
    (hdl : dv.length = ns.length) (hD : DefAt s.heap H (frs X.stack) dV dv) (hbind : LamBinds params body scope ns)
    (tk : Takes ((cxOf CXg X.prog X.w X.K X.mg X.base Ng qg sg g cdg X.A X.stack s H Eg).tr pn xe) W) (hr : Room (k + 1) (X.A.deeper (envOfC qg sg s.heap.objs.size g cdg)))
    (hbody : ∀ (E : XK) (A : Around) (outer : List Env) (s : Shared) (H : Hp), Room k (A.deeper (lamEnv X scope s.heap.objs.size f c')) → (A.guards = X.A.guards) → PE (lamCx X A outer s H E scope f c') body (tb E))
    (hN : Ng[i]? = some a) (hv : Vis sg a) (hd : (a == ("__debug__" : Str)) = false := by decide) (hcd : (a == ("__classdict__" : Str)) = false := by decide) :
    PE ((cxOf CXg X.prog X.w X.K X.mg X.base Ng qg sg g cdg X.A X.stack s H Eg).tr pn xe) (.Call (.Name a p1) [] [] p2)
      (fun σZ HZ Q => σZ[i]? = some (some (.ref f)) ∧ HZ c' = some (CodeO c' (X.env.qual ++ "<lambda>")) ∧ tb (fun cls d H' => W cls d σZ H') σ HZ Q) := by
  refine ⟨fun pinsZ sZ σZ HZ Q IZ h => ?_⟩
  obtain ⟨hs, hc, ht⟩ := h
  refine wpAny_Call_Name_kw (thn ((pe_var (pos := p1) (i := i) hN hv hd hcd).run pinsZ sZ σZ HZ (fun v H1 => v = .ref f ∧ H1 = HZ) IZ ⟨.ref f, hs, rfl, rfl⟩) fun u s1 ⟨v, H1, I1, r1, q1⟩ => ?_)
  obtain ⟨ev, eH⟩ := q1
  subst ev
  rw [eH] at I1
  obtain rfl : u = Value.ref f := r1
  have of1 : s1.heap.get? f = some (PySem.W.kdv_obj "<lambda>" (X.env.qual ++ "<lambda>") params (.expr body) scope (cloFrom X.env.cells scope.names []) dV doc pm c' ctv) := I1.base.keep f _ hf hfn hfr (fun z => nomatch (show f ∈ ([] : List Addr) from z))
  have hD1 : (dv = [] ∧ dV = .none) ∨ ∃ t, dV = .ref t ∧ s1.heap.get? t = some (PySem.W.kdv_tup dv) := by
    rcases hD with z | ⟨t, e1, e2, e3, e4⟩
    · exact .inl z
    · exact .inr ⟨t, e1, I1.base.keep t _ e2 e3 e4 (fun z => nomatch (show t ∈ ([] : List Addr) from z))⟩
  refine PySem.W.callWith_F0 ⟨_, _, _, _, of1⟩ ?_
  have un : Un (frs X.stack) [] H HZ s.heap s1.heap := I1.base
  obtain ⟨⟨oc, vs, t, hoc, hdc, hvc⟩, _, _⟩ := I1.hok c' _ hc
  have hb := hbind s1 (X.env.qual ++ "<lambda>") (cloFrom X.env.cells scope.names []) dV doc pm (.ref c') ctv dv hdl hD1
  have hloc : ∀ y ∈ ns.zip dv, scope.names.lookup y.1 = some .local := fun ⟨y, v⟩ hy => L.loc y (List.of_mem_zip hy).1
  have rc : codeAny (model X.prog X.w) (X.A.deeper (envOfC qg sg s.heap.objs.size g cdg)) (.call (.ref f) ⟨[], []⟩) (CR (L2.CX X.prog X.w) (envOfC qg sg s.heap.objs.size g cdg :: X.stack) X.prog X.w HZ s1 Q (fun cls d H' => W cls d σZ H')) s1 := by
    refine PySem.W.kla_callFunE hr.depth of1 rfl L.co L.gen rfl ⟨c', oc, vs, t, rfl, hoc, hdc, hvc⟩ ?_
    refine hb _ _ _ _ ?_
    refine wpAny_newFunctionEnv (fun y hy => (L.own y hy).1) hloc (fun h₁ hns hsb => ⟨I1.nolimit.fresh _ hsb, ?_⟩) L.kind
    show codeAny _ _ (.expr body (lamEnv X scope s1.heap.objs.size f c')) _ _
    have kp : ∀ b o, s1.heap.get? b = some o → h₁.get? b = some o := fun b o e => hsb.extBut b o (Nat.ne_of_lt (Heap.lt_size e)) (Heap.get?_push_of_some _ e)
    have J : Inv (lamCx X (X.A.deeper (envOfC qg sg s.heap.objs.size g cdg)) (envOfC qg sg s.heap.objs.size g cdg :: X.stack) s1 HZ (fun cls d H' => W cls d σZ H') scope f c') [] σ HZ { s1 with heap := h₁, toks := s1.toks + (ns.zip dv).length } :=
      lam_startN I L I1.env0 hr.hd un hns kp
    refine PySem.W.kla_codeExpr (wpAny_mono ((hbody _ _ _ s1 HZ (hr.deeper _) rfl).run [] _ _ HZ Q J ht) (fun v s' hq => ?_) fun e s' hq => hq)
    obtain ⟨w', H', J', rv, q⟩ := hq
    exact ⟨w', H', J'.os, J'.bare, J'.base, J'.hok, rv, q⟩
  refine wpAny_call (codeAny_mono rc fun r s' hq => ?_)
  cases r with
  | error e => exact tk _ _ (XE.of_call I1 (fun _ _ _ z => z) hq)
  | ok fl =>
    cases fl with
    | ret u => exact I1.after hq
    | next => exact False.elim hq
    | brk => exact False.elim hq
    | cont => exact False.elim hq
end
end L2.DL

set_option Elab.async false
set_option linter.all false
set_option autoImplicit false
set_option maxRecDepth 100000
set_option maxHeartbeats 4000000
/-! x(lambda: e) at the level of trees. -/
namespace L2.DL
open PySem PySem.Spec PyProof.Rows LamX
/-- what a call of the lambda does: where it raises, where it gives -/
abbrev Act := (XD → Nat → Prop) → (D → Nat → Prop) → Nat → Prop
def Sl.still : Sl → Bool | .ow _ => false | .gx _ _ _ => false | .scr => false | _ => true
def wAct (act : Act) (i : Nat) (xc : XC) : WE := fun env c P => env[i]? = some .lam ∧ env.all Sl.still = true ∧ act (fun x c' => xc env x c') P c
def maskS : Sl → Sl
  | .ow _ => .no | .gx _ _ _ => .no | .lam => .no | .scr => .no | s => s
def maskE (env : List Sl) : List Sl := env.map maskS
/-- x(lambda: ..): bh the words of x, m its slots, we the lambda's -/
def wHeard (bh : Act → WS) (m : Nat) (we : XC → WE) : WE := fun env c P => noGx env = true ∧ bh (fun xr Q c' => we (fun _ x c2 => xr x c2) (maskE env) c' Q) ⟨fun _ c' => P .non c', P, fun _ _ => False, fun _ _ => False⟩ (.lam :: List.replicate (m - 1) .no) c
section
variable {K : PySem.W.Frag} {F : Hp} {γ : Gm} {H0 H H0' H' H1 : Hp} {σ : St} {env : List Sl} {c c' : Nat}
def offAt (γ : Gm) (H0 H : Hp) : Hp := fun b => if γ.g = some b then none else offOf γ.tb H0 H b
theorem Core.relam (C : Core K F γ H0 H c) (l : Option Addr) : Core K F ⟨γ.g, γ.gr, γ.tb, l⟩ H0 H c := ⟨C.sub, C.frm, C.gau, C.grd, C.tbs, C.tb0⟩
theorem Core.forAt (C : Core K F γ H0 H c) (l : Option Addr) : Core K (offAt γ H0 H) ⟨γ.g, H0, γ.tb, l⟩ H0 H c := by
  refine ⟨C.sub, fun b o e => ?_, fun g e => ?_, Same.refl _, C.tbs, fun p hp => ⟨(C.tb0 p hp).1, by
    unfold offAt
    split
    · rfl
    · exact off_tab p hp⟩⟩
  · unfold offAt at e
    split at e
    · cases e
    · exact offOf_inv e
  · have e' : γ.g = some g := e
    obtain ⟨x, y, G⟩ := C.gau g e'
    exact ⟨by unfold offAt; rw [if_pos e'], y, G⟩
theorem Rep.afterAt (nx : noGx env = true) (R : Rep K F γ H0 H σ env c) {l : Option Addr} (C : Core K (offAt γ H0 H) ⟨γ.g, H0, γ.tb, l⟩ H0' H' c') (s : Same H0 H0') : Rep K F γ H0' H' σ env c' := by
  have keep : ∀ b o, γ.g ≠ some b → H b = some o → H0 b = none → (∀ p ∈ γ.tb, p.1 ≠ b) → H' b = some o ∧ H0' b = none := fun b o n h z m => C.frm b o (by unfold offAt; rw [if_neg n]; exact offOf_some h z m)
  refine ⟨⟨C.sub, fun b o e => ?_, fun g e => ?_, R.core.grd.trans s, C.tbs, fun p hp => ⟨(C.tb0 p hp).1, (R.core.tb0 p hp).2⟩⟩, R.len, fun i o sl h1 h2 => ?_, R.dis⟩
  · obtain ⟨h, z⟩ := R.core.frm b o e
    exact keep b o (fun q => by rw [(R.core.gau b q).1] at e; cases e) h z (R.core.neF e)
  · obtain ⟨x, y, G⟩ := R.core.gau g e
    obtain ⟨_, y', G'⟩ := C.gau g e
    exact ⟨x, y', G'⟩
  · have q := R.at_ i o sl h1 h2
    cases sl with
    | no => trivial
    | val d => obtain ⟨v, e, q⟩ := q; exact ⟨v, e, q.mono s⟩
    | ow ds =>
      obtain ⟨a, vs, e, g, fa, h0, ha, hv⟩ := q
      obtain ⟨h3, z3⟩ := keep a _ g ha h0 (Tabs.ne R.core.tbs ha hv.noTab)
      exact ⟨a, vs, e, g, fa, z3, h3, hv.mono s⟩
    | gau => exact q
    | lam => exact q
    | scr => first | exact q | exact ScrOk.mono q (by assumption) | exact ScrOk.mono q (Same.new (by assumption)) | exact ScrOk.mono q (Same.new O.z)
    | gx cs i' r =>
      have := noGx_mem nx _ (List.mem_of_getElem? h2)
      exact Bool.noConfusion this
/-- behind the making of a lambda -/
theorem Rep.extT (R : Rep K F γ H0 H σ env c) (e : ExtT γ.tb H H1) (t : LamX.Tabs γ.tb H1) : Rep K F γ H0 H1 σ env c := by
  have ne0 : ∀ b o, H0 b = some o → ∀ p ∈ γ.tb, p.1 ≠ b := fun b o h p hp z => by
    have := (R.core.tb0 p hp).1
    rw [z, h] at this; cases this
  refine ⟨⟨fun b o h => e b o (R.core.sub b o h) (ne0 b o h), fun b o h => ⟨e b o (R.core.frm b o h).1 (R.core.neF h), (R.core.frm b o h).2⟩, fun g h => ?_, R.core.grd, t, R.core.tb0⟩, R.len, fun i o sl h1 h2 => ?_, R.dis⟩
  · obtain ⟨x, y, G⟩ := R.core.gau g h
    obtain ⟨ca, cs, i, r, h1, _⟩ := id G
    exact ⟨x, y, G.mono (Same.refl _) (by rw [h1, e g _ h1 (Tabs.ne R.core.tbs h1 noTab_lst)]) (Nat.le_refl _)⟩
  · have q := R.at_ i o sl h1 h2
    cases sl with
    | no => trivial
    | val d => exact q
    | ow ds =>
      obtain ⟨a, vs, e1, g, fa, h0, ha, hv⟩ := q
      exact ⟨a, vs, e1, g, fa, h0, e a _ ha (Tabs.ne R.core.tbs ha hv.noTab), hv⟩
    | gau => exact q
    | lam => exact q
    | scr => first | exact q | exact ScrOk.mono q (by assumption) | exact ScrOk.mono q (Same.new (by assumption)) | exact ScrOk.mono q (Same.new O.z)
    | gx cs i' r =>
      obtain ⟨g, ca, e1, eg, hg, q⟩ := q
      exact ⟨g, ca, e1, eg, e g _ hg (Tabs.ne R.core.tbs hg noTab_lst), q⟩
/-- the captured slots, later -/
theorem Rep.masked (R : Rep K F γ H0 H σ env c) {F' : Hp} {γ' : Gm} (eg : γ'.g = γ.g) (C : Core K F' γ' H0' H' c') (s : Same H0 H0') : Rep K F' γ' H0' H' σ (maskE env) c' := by
  refine ⟨C, by unfold maskE; rw [List.length_map]; exact R.len, fun i o sl h1 h2 => ?_, fun i j a ds es n h1 h2 h3 h4 => ?_⟩
  · unfold maskE at h2
    rw [List.getElem?_map] at h2
    cases e : env[i]? with
    | none => rw [e] at h2; cases h2
    | some s0 =>
      rw [e] at h2
      cases h2
      have q := R.at_ i o s0 h1 e
      cases s0 with
      | no => trivial
      | val d => obtain ⟨v, e, q⟩ := q; exact ⟨v, e, q.mono s⟩
      | ow ds => trivial
      | gau => obtain ⟨g, e1, e2⟩ := q; exact ⟨g, e1, by rw [eg]; exact e2⟩
      | lam => trivial
      | scr => trivial
      | gx cs i' r => trivial
  · unfold maskE at h2
    rw [List.getElem?_map] at h2
    cases e : env[i]? with
    | none => rw [e] at h2; cases h2
    | some s0 =>
      rw [e] at h2
      cases s0 <;> (cases h2)
end
theorem heardSl {K : PySem.W.Frag} {F : Hp} {γ γ2 : Gm} {H0 H H0' H' : Hp} {o : Option V} {sl : Sl} (hs : sl.still = true) (q : SlOk K F γ H0 H o sl) (s : Same H0 H0') (eg : γ2.g = γ.g) (el : γ2.l = γ.l) : SlOk K F γ2 H0' H' o sl := by
  cases sl with
  | no => trivial
  | val d => obtain ⟨v, e, q⟩ := q; exact ⟨v, e, q.mono s⟩
  | ow ds => exact Bool.noConfusion hs
  | gau => obtain ⟨g, e1, e2⟩ := q; exact ⟨g, e1, by rw [eg]; exact e2⟩
  | lam => obtain ⟨g, e1, e2⟩ := q; exact ⟨g, e1, by rw [el]; exact e2⟩
  | scr => exact Bool.noConfusion hs
  | gx cs i r => exact Bool.noConfusion hs
theorem Core.at2 {K : PySem.W.Frag} {F : Hp} {g l l2 : Option Addr} {tb : List (Addr × Str)} {gr g2 H0 H : Hp} {c : Nat} (C : Core K F ⟨g, g2, tb, l⟩ H0 H c) (s : Same gr g2) : Core K F ⟨g, gr, tb, l2⟩ H0 H c := ⟨C.sub, C.frm, C.gau, s.trans C.grd, C.tbs, C.tb0⟩
theorem Core.at3 {K : PySem.W.Frag} {F : Hp} {g l l2 : Option Addr} {tb : List (Addr × Str)} {g2 H0 H : Hp} {c : Nat} (C : Core K F ⟨g, g2, tb, l⟩ H0 H c) : Core K F ⟨g, H0, tb, l2⟩ H0 H c := ⟨C.sub, C.frm, C.gau, Same.refl _, C.tbs, C.tb0⟩
structure HeardOk (P : Program) (w : World) (K : PySem.W.Frag) (mg : Str → Option Value) (base : Heap) (k : Nat) (x a : Str) (Ng : List Str) (bg : List Stmt) (sg : Scope) (g : Addr) (tb : List (Addr × Str)) (bh : Act → WS) : Prop where
  lk : ∃ (oc : Value) (od : Option Addr) (pg : Arguments) (dV kV doc pm cdv ct : Value) (an : Option Addr) (osl : Array (Option Value)), K.lookup g = some ⟨oc, od, .func (PySem.W.fnOf x x pg bg sg dV kV doc pm an cdv ct), osl⟩ ∧ PySem.W.codeIn K cdv x = true ∧ L2.Binds K (PySem.W.fnOf x x pg bg sg dV kV doc pm an cdv ct) [a] [] ∧
    ∀ (A : Around) (outer : List Env) (s : Shared) (H : Hp) (F : Hp) (γ : Gm) (act : Act), γ.tb = tb → Room k (A.deeper (envOfC x sg s.heap.objs.size g cdv)) → A.guards = some [] →
      (∀ (gr : Hp) (xc : XC) (pn : List (Addr × Obj)) (xe : Value → Shared → Prop) (p1 p2 : Pos), Same γ.gr gr → Takes ((cxOf CX0 P w K mg base Ng x sg g cdv A outer s H E0).tr pn xe) (wishR K F (γ.at gr) xc) →
        PE ((cxOf CX0 P w K mg base Ng x sg g cdv A outer s H E0).tr pn xe) (.Call (.Name a p1) [] [] p2) (tG K F (γ.at gr) (wAct act 0 xc))) →
      PSs (cxOf CX0 P w K mg base Ng x sg g cdv A outer s H E0).nox bg (tS K F γ (bh act))
  sc : FnScope Ng [a] sg
  n0 : Ng[0]? = some a
  va : Vis sg a
  mg : mg x = some (.ref g)
  kp : PySem.W.keepIn K (.ref g) = true
  da : (a == ("__debug__" : Str)) = false
  dc : (a == ("__classdict__" : Str)) = false
section
variable {X : Cx} {F : Hp} {γ : Gm} {pos p lpos : Pos} {k m : Nat} {x a : Str} {Ng ns : List Str} {bg : List Stmt} {sg scope : Scope} {g c P : Addr} {bh : Act → WS} {params : Arguments} {body : Expr} {we : XC → WE}
theorem dHeard (HO : HeardOk X.prog X.w X.K X.mg X.base (k + 1) x a Ng bg sg g γ.tb bh) (hm0 : Ng.length = m) (L : LamN X.env.scope scope X.N ns) (hdef : DefOf params X.env ns.length) (hbind : LamBinds params body scope ns) (TB : TabB X.base X.mg c P) (hcode : X.env.code = .ref c)
    (hmT : (P, X.env.qual ++ "<lambda>") ∈ γ.tb) (hu : ∀ p ∈ γ.tb, p.1 = P → p.2 = X.env.qual ++ "<lambda>") (hr : Room (k + 2) X.A) (hgd : X.A.guards = some [])
    (hbody : ∀ (E : XK) (f c' : Addr) (A : Around) (outer : List Env) (s : Shared) (H : Hp) (F' : Hp) (g2 : Option Addr) (gr2 : Hp) (l2 : Option Addr) (xc : XC), Room k (A.deeper (lamEnv X scope s.heap.objs.size f c')) → (A.deeper (lamEnv X scope s.heap.objs.size f c')).guards = some [] → Takes (lamCx X A outer s H E scope f c') (wishR X.K F' ⟨g2, gr2, γ.tb, l2⟩ xc) →
      PE (lamCx X A outer s H E scope f c') body (tG X.K F' ⟨g2, gr2, γ.tb, l2⟩ (we xc)))
    (hg : Gl X x := by rfl) (hdb : (x == ("__debug__" : Str)) = false := by decide) :
    PE X (.Call (.Name x p) [.Lambda params body scope lpos] [] pos) (tG X.K F γ (wHeard bh m we)) := by
  refine ⟨fun pins s σ H Q I h => ?_⟩
  obtain ⟨H0, env, c0, P0, R, ⟨nx, q⟩, kk⟩ := h
  obtain ⟨oc, od, pg, dV0, kV, doc0, pm0, cdv, ct, an, osl, lk, hcg, hb, run⟩ := HO.lk
  refine wpAny_Call_Name_kw (ld_glob I hg HO.mg ?_ hdb)
  refine PySem.W.callWith_K (h₀ := X.base) I.ok.mod.kin HO.kp ?_ (by rfl) (by rfl)
  show wpAny _ _ (spliced ((false, eval (.Lambda params body scope lpos) X.env) :: backTo pos (starEach [] X.env))) _ _ s
  refine Calls.spliced_cons (lam_make I TB hcode hmT hu R.core.tbs hdef (L.has I.ok) fun f c' dV doc pm ctv dv H1 s' I1 eT T1 hdl hD hf hfn hfr hco => ?_)
  refine Calls.spliced_nil ⟨I1.kIn, ?_⟩
  have R1 : Rep X.K F γ H0 H1 σ env c0 := R.extT eT T1
  have rc : codeAny (model X.prog X.w) X.A (.call (.ref g) ⟨[.ref f], []⟩) (CR C8.CX0 X.stack X.prog X.w H1 s' Q C8.E0) s' := by
    refine run_ofS (N := Ng) (ps := [a]) (us := [.ref f]) (vs := [.ref f]) lk hcg HO.sc hr I1.env0 (hb s' [.ref f] I1.kIn rfl) (.cons rfl .nil) rfl fun hr' => ?_
    have C1 := R1.core.forAt (some f)
    refine ⟨_, (run X.A X.stack s' H1 (offAt γ H0 H1) ⟨γ.g, H0, γ.tb, some f⟩ (fun xr Q c' => we (fun _ x c2 => xr x c2) (maskE env) c' Q) rfl hr' hgd fun gr xc pn xe p1 p2 sg tk => ?_).nox, ?_⟩
    · refine PE.imp (pe_actN (i := 0) (tb := fun E σ HZ Q => ∃ (F' : Hp) (g2 : Option Addr) (gr2 : Hp) (l2 : Option Addr) (xc : XC), (∀ cls d σ H, wishR X.K F' ⟨g2, gr2, γ.tb, l2⟩ xc cls d σ H → E cls d H) ∧ tG X.K F' ⟨g2, gr2, γ.tb, l2⟩ (we xc) σ HZ Q) I1 L hf hfn hfr hdl hD hbind tk hr' (fun E A outer s H hrm hga => ⟨fun pins s2 σ2 H2 Q2 I2 ⟨F', g2, gr2, l2, xc', hW, h2⟩ =>
        (hbody E f c' A outer s H F' g2 gr2 l2 xc' hrm (by rw [← hgd]; exact hga) ((takes_of rfl rfl rfl rfl).imp hW)).run pins s2 σ2 H2 Q2 I2 h2⟩) HO.n0 HO.va HO.da HO.dc) fun σZ HZ QZ hz => ?_
      obtain ⟨H0z, envz, cz, Pz, Rz, ⟨ez, stz, qz⟩, kz⟩ := hz
      rw [List.all_eq_true] at stz
      have hlz := Rz.len
      obtain ⟨hiz, _⟩ := List.getElem?_eq_some_iff.mp ez
      have h2z : σZ[0]? = some σZ[0] := List.getElem?_eq_getElem (by omega)
      obtain ⟨f', ef, ef'⟩ := Rz.at_ 0 _ _ h2z ez
      have eff : f' = f := (Option.some.inj ef').symm
      subst eff
      have sz : Same H0 H0z := sg.trans Rz.core.grd
      have hcz : HZ c' = some (CodeO c' (X.env.qual ++ "<lambda>")) := by
        cases e0 : H0 c' with
        | some o =>
          have e1 := R1.core.sub _ _ e0
          rw [hco] at e1
          rw [← e1] at e0
          exact Rz.core.sub _ _ (sz _ _ e0)
        | none =>
          refine (Rz.core.frm c' _ ?_).1
          unfold offAt
          rw [if_neg]
          · refine offOf_some hco e0 (fun p hp z => ?_)
            obtain ⟨ps, t1, _⟩ := T1 p hp
            rw [z, hco] at t1
            exact codeO_ne _ (Option.some.inj t1)
          · intro eg
            obtain ⟨_, _, ca, cs, i, r, h1, _⟩ := R1.core.gau c' eg
            rw [hco] at h1
            have z := Option.some.inj h1
            unfold CodeO at z
            cases z
      refine ⟨by rw [h2z, ef], hcz, offAt γ H0 H1, γ.g, H0z, γ.l, fun _ x c2 => xc envz x c2, fun cls d σ' H' hw => ?_, H0z, maskE env, cz, Pz, R1.masked (γ' := ⟨γ.g, H0z, γ.tb, γ.l⟩) rfl (Core.at3 Rz.core) sz, qz, fun d c2 v H' H0' q2 s2 R2 h2 => ?_⟩
      · obtain ⟨H0w, envw, cw, xw, Rw, hx, qw⟩ := hw
        refine ⟨H0w, envz, cw, xw, ⟨Core.at2 Rw.core Rz.core.grd, Rz.len, fun i o sl h1 h2 => heardSl (stz _ (List.mem_of_getElem? h2)) (Rz.at_ i o sl h1 h2) Rw.core.grd rfl rfl, Rz.dis⟩, hx, qw⟩
      · exact kz d c2 v H' H0' q2 s2 ⟨Core.at2 R2.core Rz.core.grd, Rz.len, fun i o sl h1 h3 => heardSl (stz _ (List.mem_of_getElem? h3)) (Rz.at_ i o sl h1 h3) s2 rfl rfl, Rz.dis⟩ h2
    · have hNl : Ng.length = [V.ref f].length + (m - 1) := by
        have h0 := (List.getElem?_eq_some_iff.mp HO.n0).1
        show Ng.length = 1 + (m - 1)
        omega
      have R0 : Rep X.K (offAt γ H0 H1) ⟨γ.g, H0, γ.tb, some f⟩ H0 H1 (L2.start Ng [.ref f]) ([.lam] ++ List.replicate (m - 1) .no) c0 := start_rep C1 hNl rfl (fun i v sl h1 h2 => by
        cases i with
        | zero => cases h1; cases h2; exact ⟨f, rfl, rfl⟩
        | succ i => cases h2) (fun i ds h => by
        cases i with
        | zero => cases h
        | succ i => cases h)
      refine ⟨H0, _, c0, _, R0, q, ?_, ?_, ?_, ?_⟩
      · exact fun σ' env' c' H' H0' q1 s1 R2 => kk .non c' .non H' H0' q1 s1 (R1.afterAt nx R2.core s1) .non
      · exact fun d c' v H' H0' q1 s1 C2 h1 => kk d c' v H' H0' q1 s1 (R1.afterAt nx C2 s1) h1
      · exact fun _ _ _ _ _ q => False.elim q
      · exact fun _ _ _ _ _ q => False.elim q
  refine wpAny_call (codeAny_mono rc fun r s2 hq => ?_)
  cases r with
  | error e => exact (show False from hq).elim
  | ok fl =>
    cases fl with
    | ret u => exact I1.after hq
    | next => exact False.elim hq
    | brk => exact False.elim hq
    | cont => exact False.elim hq
end
end L2.DL

set_option Elab.async false
set_option linter.all false
set_option autoImplicit false
set_option maxRecDepth 100000
set_option maxHeartbeats 4000000
/-! Error classes of one and two fields; defs as values; defs that make lambdas; the end with tables. -/
namespace L2.DL
open PySem PySem.Spec PyProof.Rows LamX
/-! ### the message of an error -/
def tPart : Str ⊕ Nat → TE
  | .inl s => tC (.str s)
  | .inr i => tFmt (tVar i)
def partOk (σ : St) : Str ⊕ Nat → Prop
  | .inl s => s.length ≤ 1000
  | .inr i => ∃ v, σ[i]? = some (some v) ∧ V.msgOk v
theorem msg_read {σ : St} {H : Hp} {Q : Str → Hp → Prop} (hq : ∀ out, Q out H) : ∀ (ps : List (Str ⊕ Nat)) (acc : Str), acc.length + 1000 * ps.length ≤ 100000 → (∀ p ∈ ps, partOk σ p) → tJs (ps.map tPart) acc σ H Q
  | [], acc, _, _ => hq acc
  | .inl s :: ps, acc, hz, ok => by
    have h1 : s.length ≤ 1000 := ok _ List.mem_cons_self
    rw [List.length_cons] at hz
    refine ⟨s, rfl, by rw [Str.length_append, sizeLine_eq]; omega, msg_read hq ps _ (by rw [Str.length_append]; omega) fun p hp => ok p (List.mem_cons_of_mem _ hp)⟩
  | .inr i :: ps, acc, hz, ok => by
    obtain ⟨v, hv, hm⟩ := (show ∃ v, σ[i]? = some (some v) ∧ V.msgOk v from ok _ List.mem_cons_self)
    rw [List.length_cons] at hz
    refine ⟨v, hv, ?_⟩
    cases v with
    | str x =>
      have hx : x.length ≤ 1000 := hm
      exact .inl ⟨x, rfl, by rw [sizeLine_eq]; omega, x, rfl, by rw [Str.length_append, sizeLine_eq]; omega, msg_read hq ps _ (by rw [Str.length_append]; omega) fun p hp => ok p (List.mem_cons_of_mem _ hp)⟩
    | int i =>
      obtain ⟨h1, h2⟩ := (show _ ∧ _ from hm)
      exact .inr ⟨i, rfl, h1, _, rfl, by rw [Str.length_append, sizeLine_eq]; omega, msg_read hq ps _ (by rw [Str.length_append]; omega) fun p hp => ok p (List.mem_cons_of_mem _ hp)⟩
    | _ => exact (show False from hm).elim
abbrev tMsg (ps : List (Str ⊕ Nat)) : TA := tCons (fun σ H Q => tJs (ps.map tPart) Str.empty σ H fun out H1 => Q (.str out) H1) tNil
theorem tMsg_ok {σ : St} {H : Hp} {ps : List (Str ⊕ Nat)} (hz : ps.length ≤ 50) (ok : ∀ p ∈ ps, partOk σ p) : tMsg ps σ H (fun us H1 => us.length ≤ 1000 ∧ H1 = H) :=
  msg_read (Q := fun out H1 => tNil σ H1 fun us H2 => (V.str out :: us).length ≤ 1000 ∧ H2 = H) (fun out => ⟨by simp, rfl⟩) ps Str.empty (by show 0 + _ ≤ _; omega) ok
theorem AllMsgV.get : ∀ {vs : List V} {i : Nat} {v : V}, AllMsgV vs → vs[i]? = some v → V.msgOk v
  | _ :: _, 0, _, h, e => by cases e; exact h.1
  | _ :: vs, i + 1, v, h, e => AllMsgV.get (vs := vs) (i := i) h.2 (by simpa using e)
  | [], _, _, _, e => by simp at e
/-- a part is a text, or a field by its place (1 ..) -/
def partIn (n : Nat) : Str ⊕ Nat → Prop
  | .inl s => s.length ≤ 1000
  | .inr i => 1 ≤ i ∧ i ≤ n
theorem parts_ok {a : Addr} {ys : List V} {ps : List (Str ⊕ Nat)} (h : ∀ p ∈ ps, partIn ys.length p) (m : AllMsgV ys) : ∀ p ∈ ps, partOk ((V.ref a :: ys).map some) p := fun p hp => by
  have q := h p hp
  cases p with
  | inl s => exact q
  | inr i =>
    obtain ⟨h1, h2⟩ := (show 1 ≤ i ∧ i ≤ ys.length from q)
    obtain ⟨j, rfl⟩ : ∃ j, i = j + 1 := ⟨i - 1, by omega⟩
    have hj : ys[j]? = some ys[j] := List.getElem?_eq_getElem (by omega)
    exact ⟨ys[j], by rw [List.map_cons, List.getElem?_cons_succ, List.getElem?_map, hj]; rfl, m.get hj⟩
section
variable {P : Program} {w : World} {K : PySem.W.Frag} {mg : Str → Option Value} {base : Heap} {C fI : Addr} {fd : FuncData} {ps : List Str} {k : Nat}
theorem spX_ini1 {f1 : Str} {parts : List (Str ⊕ Nat)} (T : OexC K C) (h1 : PySem.W.findIn K (.ref C) f1 = some none) (hz : parts.length ≤ 50) (hp : ∀ p ∈ parts, partIn 1 p)
    (F : FnOk P w K mg base CX0 k fI fd ps (spIni C 1 (tMsg parts) (tSeq (tOst K f1 (tVar 0) (tVar 1)) tNext))) : FnOk P w K mg base CX0 k fI fd ps (spX C [f1]) :=
  F.imp fun vs H Q E ⟨a, ys, e, hl, hx, hm, q⟩ => by
    subst e
    refine ⟨a, ys, rfl, hl, hx, tMsg_ok hz (parts_ok (by rw [hl]; exact hp) hm), ?_⟩
    match ys, hl with
    | [y], _ => exact ⟨y, rfl, .ref a, rfl, a, C, rfl, T, h1, .inl ⟨hx, fun dx hd hne => q dx hd hne⟩⟩
theorem spX_ini2 {f1 f2 : Str} {parts : List (Str ⊕ Nat)} (T : OexC K C) (h1 : PySem.W.findIn K (.ref C) f1 = some none) (h2 : PySem.W.findIn K (.ref C) f2 = some none) (hz : parts.length ≤ 50) (hp : ∀ p ∈ parts, partIn 2 p)
    (F : FnOk P w K mg base CX0 k fI fd ps (spIni C 2 (tMsg parts) (tSeq (tOst K f1 (tVar 0) (tVar 1)) (tSeq (tOst K f2 (tVar 0) (tVar 2)) tNext)))) : FnOk P w K mg base CX0 k fI fd ps (spX C [f1, f2]) :=
  F.imp fun vs H Q E ⟨a, ys, e, hl, hx, hm, q⟩ => by
    subst e
    refine ⟨a, ys, rfl, hl, hx, tMsg_ok hz (parts_ok (by rw [hl]; exact hp) hm), ?_⟩
    match ys, hl with
    | [y, z], _ =>
      refine ⟨y, rfl, .ref a, rfl, a, C, rfl, T, h1, .inl ⟨hx, fun dx hd hne => ?_⟩⟩
      refine ⟨z, rfl, .ref a, rfl, a, C, rfl, T, h2, .inr ⟨dx, [(f1, y)], upd_same, by rw [upd_ne hne, upd_same], by show 1 ≤ 900; decide, ?_⟩⟩
      have e1 : upd (upd (upd H dx (exd dx [(f1, y)])) a (exo a C (some dx))) dx (exd dx [(f2, z), (f1, y)]) = upd (upd H dx (exd dx [(f2, z), (f1, y)])) a (exo a C (some dx)) := by
        funext b
        by_cases hb : b = dx
        · rw [hb, upd_same, upd_ne hne, upd_same]
        · rw [upd_ne hb]
          by_cases hb2 : b = a
          · rw [hb2, upd_same, upd_same]
          · rw [upd_ne hb2, upd_ne hb, upd_ne hb2, upd_ne hb]
      rw [e1]
      exact q dx hd hne
end
/-! ### defs as values -/
theorem FnG.toX {P : Program} {w : World} {K : PySem.W.Frag} {mg : Str → Option Value} {base : Heap} {k n : Nat} {f : Addr} {fd : FuncData} {ps : List Str} {TB : List (Addr × Str)} {T : TP} (G : FnG P w K mg base CX0 k f fd ps (spP K TB n T)) : FnG P w K mg base (L2.CX P w) k f fd ps (spPx K TB n fun _ => T) := by
  have to : ∀ vs H Q E, spPx K TB n (fun _ => T) vs H Q E → spP K TB n T vs H Q E0 := fun vs H Q E ⟨F, H0, ds, P, xc, C, hv, hn, hT, hQ, _⟩ => ⟨F, H0, H0, ds, P, C, hv, hn, hT, hQ⟩
  refine ⟨fun vs H Q E h => G.len vs H Q _ (to _ _ _ _ h), fun A out s H ar us vs Q E hr hg he hb hv hs => ?_⟩
  refine codeAny_mono (G.run A out s H ar us vs Q _ hr hg he hb hv (to _ _ _ _ hs)) fun r s' h => ?_
  match r, h with
  | .error e, h => exact (show False from h).elim
  | .ok (.ret u), h => exact h
  | .ok .next, h => exact h
  | .ok .brk, h => exact h
  | .ok .cont, h => exact h
section
variable {X : Cx} {F : Hp} {γ : Gm} {pos p : Pos} {k n i : Nat} {f : Addr} {x : Str} {e : Expr} {es : List Expr} {wa : WA} {xc : XC}
theorem dFnV (hm : X.mg x = some (.ref f)) (hG : Glo X.K x f) (hg : Gl X x := by rfl) (hdb : (x == ("__debug__" : Str)) = false := by decide) : PE X (.Name x pos) (tG X.K F γ (wC (.fn x))) := PE.imp (pe_glob (v := .ref f) hg hm rfl hdb) fun σ H Q h => by
  obtain ⟨H0, env, c, P, R, q, k⟩ := h
  exact k _ _ _ _ _ q (Same.refl _) R (.fn hG)
/-- a def that may be called by its value -/
structure FnV (P : Program) (w : World) (K : PySem.W.Frag) (mg : Str → Option Value) (base : Heap) (TB : List (Addr × Str)) (k n : Nat) (x : Str) (T : (XD → Prop) → TP) : Prop where
  ex : ∃ (f : Addr) (fd : FuncData) (ps : List Str), Glo K x f ∧ PySem.W.keepIn K (.ref f) = true ∧ Binds K fd ps [] ∧ FnG P w K mg base (L2.CX P w) k f fd ps (spPx K TB n T)
def wCallV (i n : Nat) (tab : List (Str × ((XD → Prop) → TP))) (xc : XC) (wa : WA) : WE := fun env c P => ∃ x T, env[i]? = some (.val (.fn x)) ∧ (x, T) ∈ tab ∧ wa env c fun ds c1 => ds.length = n ∧ T (fun y => xc env y c1) ds fun d => P d c1
theorem dCallV {tab : List (Str × ((XD → Prop) → TP))} {v : Str} (i : Nat) (tk : Takes X (wishR X.K F γ xc)) (hT : ∀ p ∈ tab, FnV X.prog X.w X.K X.mg X.base γ.tb k n p.1 p.2) (hr : Room k X.A) (hgd : X.A.guards = some []) (ha : PA X (e :: es) (tA X.K F γ wa))
    (hN : X.N[i]? = some v := by rfl) (hv : Vis X.env.scope v := by first | exact Or.inl rfl | exact Or.inr (Or.inl rfl) | exact Or.inr (Or.inr rfl)) (hd : (v == ("__debug__" : Str)) = false := by decide) (hcd : (v == ("__classdict__" : Str)) = false := by decide)
    (he : starEach (e :: es) X.env = (false, eval e X.env) :: starEach es X.env := by rfl) (hpl : (backTo pos (starEach es X.env)).any (·.1) = false := by rfl) :
    PE X (.Call (.Name v p) (e :: es) [] pos) (tG X.K F γ (wCallV i n tab xc wa)) := by
  refine ⟨fun pins s σ H Q I h => ?_⟩
  obtain ⟨H0, env, c, P, R, ⟨x, T, ei, hm, q⟩, kk⟩ := h
  obtain ⟨f, fd, ps, hG, hk, hb, G⟩ := (hT _ hm).ex
  have hl := R.len
  obtain ⟨hi, _⟩ := List.getElem?_eq_some_iff.mp ei
  have h2 : σ[i]? = some σ[i] := List.getElem?_eq_getElem (by omega)
  obtain ⟨u, e2, hu⟩ := R.at_ i _ _ h2 ei
  have hu' : u = .ref f := by
    cases hu with
    | fn g => rw [Glo.inj g hG]
  subst hu'
  refine wpAny_Call_Name_kw (thn ((pe_var (pos := p) (i := i) hN hv hd hcd).run pins s σ H (fun v H1 => v = .ref f ∧ H1 = H) I ⟨.ref f, by rw [h2, e2], rfl, rfl⟩) fun u s1 ⟨v, H1, I1, r1, q1⟩ => ?_)
  obtain ⟨ev, eH⟩ := q1
  subst ev
  rw [eH] at I1
  obtain rfl : u = Value.ref f := r1
  have h' : tG X.K F γ (wCallX n T xc [] wa) σ H Q := ⟨H0, env, c, P, R, (by simpa only [wCallX, List.append_nil] using q), kk⟩
  exact PySem.W.callWith_K (h₀ := X.base) I.ok.mod.kin hk (thn (ha.run pos pins s1 σ H _ I1 (callX_read (fun _ => .nil) h')) fun us s2 ⟨vs, H2, I2, r, q⟩ => ⟨I2.kIn, runGX (CX0' := 0) tk G hr hgd hb .nil I2 r (fun _ _ _ z => z) q⟩) he hpl
end
end L2.DL
namespace L2.DL
open PySem PySem.Spec PyProof.Rows LamX
/-! ### defs that make lambdas: their code object is known -/
structure FunC (K : PySem.W.Frag) (x qual : Str) (st : Stmt) (f : Addr) (fd : FuncData) (c : Addr) : Prop where
  ex : ∃ (oc : Value) (od : Option Addr) (kV doc pm : Value) (an : Option Addr) (ct : Value) (osl : Array (Option Value)),
    fd = PySem.W.fnOf x qual (defArgs st) (defBody st) (defScope st) .none kV doc pm an (.ref c) ct ∧ K.lookup f = some ⟨oc, od, .func fd, osl⟩ ∧ PySem.W.codeIn K (.ref c) qual = true
  kp : PySem.W.keepIn K (.ref f) = true
theorem FunC.fn {K : PySem.W.Frag} {x qual : Str} {st : Stmt} {f : Addr} {fd : FuncData} {c : Addr} (F : FunC K x qual st f fd c) : Fun K x qual st f fd := by
  obtain ⟨oc, od, kV, doc, pm, an, ct, osl, h1, h2, h3⟩ := F.ex
  exact ⟨⟨oc, od, kV, doc, pm, an, .ref c, ct, osl, h1, h2, h3⟩, F.kp⟩
/-- what a def that makes lambdas knows of its table -/
structure LamT (base : Heap) (mg : Str → Option Value) (TB : List (Addr × Str)) (x : Str) (c P : Addr) : Prop where
  tb : TabB base mg c P
  mem : (P, x ++ ".<locals>." ++ "<lambda>") ∈ TB
  uni : ∀ p ∈ TB, p.1 = P → p.2 = x ++ ".<locals>." ++ "<lambda>"
section
variable {P : Program} {w : World} {K : PySem.W.Frag} {mg : Str → Option Value} {base : Heap} {x qual : Str} {st : Stmt} {f c : Addr} {fd : FuncData} {N ps : List Str} {k m : Nat} {wb : WS} {TB : List (Addr × Str)}
theorem dFnGC {n : Nat} (Fn : FunC K x qual st f fd c) (S : FnScope N ps (defScope st)) (hn : ps.length = n + 1) (hN : N.length = ps.length + m)
    (hb : ∀ (A : Around) (outer : List Env) (s : Shared) (H : Hp) (E : XK) (F : Hp) (g : Addr) (gr : Hp), Room k (A.deeper (envOfC qual (defScope st) s.heap.objs.size f (.ref c))) → (A.deeper (envOfC qual (defScope st) s.heap.objs.size f (.ref c))).guards = some [] →
      PSs (cxOf CX0 P w K mg base N qual (defScope st) f (.ref c) A outer s H E).nox (defBody st) (tS K F ⟨some g, gr, TB, none⟩ wb)) :
    FnG P w K mg base CX0 (k + 1) f fd ps (spG K TB n (wG wb m)) := by
  obtain ⟨oc, od, kV, doc, pm, an, ct, osl, rfl, lk, hcd⟩ := Fn.ex
  refine fnG_of lk hcd S (fun vs H Q E h => h.len.trans hn.symm) fun A outer s H vs Q E hr hgd h => ?_
  obtain ⟨F, g, gr, q⟩ := bodyG hn hN h
  exact ⟨_, (hb A outer s H E F g gr hr hgd).nox, q⟩
theorem dFnPC (Fn : FunC K x qual st f fd c) (S : FnScope N ps (defScope st)) (hN : N.length = ps.length + m)
    (hb : ∀ (A : Around) (outer : List Env) (s : Shared) (H : Hp) (E : XK) (F gr : Hp), Room k (A.deeper (envOfC qual (defScope st) s.heap.objs.size f (.ref c))) → (A.deeper (envOfC qual (defScope st) s.heap.objs.size f (.ref c))).guards = some [] →
      PSs (cxOf CX0 P w K mg base N qual (defScope st) f (.ref c) A outer s H E).nox (defBody st) (tS K F ⟨none, gr, TB, none⟩ wb)) :
    FnG P w K mg base CX0 (k + 1) f fd ps (spP K TB ps.length (wP wb m)) := by
  obtain ⟨oc, od, kV, doc, pm, an, ct, osl, rfl, lk, hcd⟩ := Fn.ex
  refine fnG_of lk hcd S (fun vs H Q E h => h.len) fun A outer s H vs Q E hr hgd h => ?_
  obtain ⟨F, gr, q⟩ := bodyP hN h
  exact ⟨_, (hb A outer s H E F gr hr hgd).nox, q⟩
theorem dFnLawC {ps0 : Str} {i m : Nat} {wl : WS} (Fn : FunC K x qual st f fd c) (S : FnScope N [ps0] (defScope st)) (hN : N.length = m) (hi : 0 < i ∧ i < m)
    (hw : wl ⟨fun _ _ => False, fun d _ => d = .bl true, fun _ _ => False, fun _ _ => False⟩ ((List.replicate m .no).set i .gau) 0)
    (hb : ∀ (A : Around) (outer : List Env) (s : Shared) (H : Hp) (E : XK), Room k (A.deeper (envOfC qual (defScope st) s.heap.objs.size f (.ref c))) → (A.deeper (envOfC qual (defScope st) s.heap.objs.size f (.ref c))).guards = some [] →
      PSs (cxOf CX0 P w K mg base N qual (defScope st) f (.ref c) A outer s H E).nox (defBody st) (tSeq (tAsg (tCall (spMk K) [] E0 (tCons (tVar 0) tNil)) (gName i)) (exS K TB wl))) :
    FnG P w K mg base CX0 (k + 1) f fd [ps0] (spLaw K TB) := by
  obtain ⟨oc, od, kV, doc, pm, an, ct, osl, rfl, lk, hcd⟩ := Fn.ex
  refine fnG_of lk hcd S (fun vs H Q E ⟨a, ns, e, _⟩ => by rw [e]; rfl) fun A outer s H vs Q E hr hgd h => ?_
  obtain ⟨a, ns, rfl, hS, hl, hT, hQ⟩ := h
  exact ⟨_, (hb A outer s H E hr hgd).nox, law_read hS hl hT hN hi hQ hw⟩
end
/-! ### defs that may raise, by their text -/
section
variable {P : Program} {w : World} {K : PySem.W.Frag} {mg : Str → Option Value} {base : Heap} {x qual : Str} {st : Stmt} {f : Addr} {fd : FuncData} {N ps : List Str} {k m : Nat} {wb : XC → WS} {TB : List (Addr × Str)}
theorem dFnX (Fn : Fun K x qual st f fd) (S : FnScope N ps (defScope st)) (hN : N.length = ps.length + m)
    (hb : ∀ (cdv : Value) (A : Around) (outer : List Env) (s : Shared) (H : Hp) (E : XK) (F gr : Hp) (xc : XC), Room k (A.deeper (envOfC qual (defScope st) s.heap.objs.size f cdv)) → (A.deeper (envOfC qual (defScope st) s.heap.objs.size f cdv)).guards = some [] →
      Takes (cxOf (L2.CX P w) P w K mg base N qual (defScope st) f cdv A outer s H E) (wishR K F ⟨none, gr, TB, none⟩ xc) → PassesOwn (model P w) (A.deeper (envOfC qual (defScope st) s.heap.objs.size f cdv)) (envOfC qual (defScope st) s.heap.objs.size f cdv) (cxOf (L2.CX P w) P w K mg base N qual (defScope st) f cdv A outer s H E).xe →
      PSs (cxOf (L2.CX P w) P w K mg base N qual (defScope st) f cdv A outer s H E) (defBody st) (tS K F ⟨none, gr, TB, none⟩ (wb xc))) :
    FnG P w K mg base (L2.CX P w) (k + 1) f fd ps (spPx K TB ps.length (wPx wb m)) := by
  obtain ⟨oc, od, kV, doc, pm, an, cdv, ct, osl, rfl, lk, hcd⟩ := Fn.ex
  exact dFnPx lk hcd S hN (hb cdv)
theorem dFnXD {params : Arguments} {body : List Stmt} {scope : Scope} {dvs : List V} {kws : List (Str × V)} (Fn : FunD K x qual params body scope dvs kws f fd) (S : FnScope N ps scope) (hN : N.length = ps.length + m)
    (hb : ∀ (cdv : Value) (A : Around) (outer : List Env) (s : Shared) (H : Hp) (E : XK) (F gr : Hp) (xc : XC), Room k (A.deeper (envOfC qual scope s.heap.objs.size f cdv)) → (A.deeper (envOfC qual scope s.heap.objs.size f cdv)).guards = some [] →
      Takes (cxOf (L2.CX P w) P w K mg base N qual scope f cdv A outer s H E) (wishR K F ⟨none, gr, TB, none⟩ xc) → PassesOwn (model P w) (A.deeper (envOfC qual scope s.heap.objs.size f cdv)) (envOfC qual scope s.heap.objs.size f cdv) (cxOf (L2.CX P w) P w K mg base N qual scope f cdv A outer s H E).xe →
      PSs (cxOf (L2.CX P w) P w K mg base N qual scope f cdv A outer s H E) body (tS K F ⟨none, gr, TB, none⟩ (wb xc))) :
    FnG P w K mg base (L2.CX P w) (k + 1) f fd ps (spPx K TB ps.length (wPx wb m)) := by
  obtain ⟨oc, od, dV, kV, doc, pm, an, cdv, ct, osl, rfl, lk, hcd, _, _⟩ := Fn.ex
  exact dFnPx lk hcd S hN (hb cdv)
end
/-! ### facts, put together -/
theorem tabIn_of {K : PySem.W.Frag} {x : Str} {f c P : Addr} {fd : FuncData} {oc cc : Value} {od cdd : Option Addr} {sl ccs : Array (Option Value)} {vs : Array Value} (a : PySem.W.nsIn K mainGlobals x = some (some (.ref f))) (l : K.lookup f = some ⟨oc, od, .func fd, sl⟩) (hc : fd.code = .ref c) (lc : K.lookup c = some ⟨cc, cdd, .fields vs, ccs⟩) (hv : vs[11]? = some (.ref P)) : PySem.W.tabIn K x = some (c, P) := by
  unfold PySem.W.tabIn
  rw [a]
  dsimp only
  rw [l]
  dsimp only
  rw [hc]
  dsimp only
  rw [lc]
  dsimp only
  rw [hv]
theorem exm_of {K : PySem.W.Frag} {C CH : Addr} (h1 : PySem.W.subIn K (.ref CH) (.type "BaseException") = some true) (h2 : PySem.W.isClsIn K CH = true) (h3 : PySem.W.typeIn K (.ref CH) = some (.type "type")) (h4 : PySem.W.subIn K (.ref C) (.ref CH) = some true) : PySem.W.exmOne K (.ref C) (.ref CH) = some true := by
  have e1 : (PySem.W.subIn K (.ref CH) (.type "BaseException") == some true) = true := by rw [h1] <;> rfl
  have e2 : ((PySem.W.clsIn K CH).isSome && PySem.W.typeIn K (.ref CH) == some (.type "type")) = true := by
    have h2' : (PySem.W.clsIn K CH).isSome = true := h2
    rw [h2', h3] <;> rfl
  show (if (PySem.W.subIn K (.ref CH) (.type "BaseException") == some true) = true then (if ((PySem.W.clsIn K CH).isSome && PySem.W.typeIn K (.ref CH) == some (.type "type")) = true then PySem.W.subIn K (.ref C) (.ref CH) else none) else none) = some true
  rw [if_pos e1, if_pos e2]
  exact h4
/-- what of the classes the walk asks: those of cs, caught by CH -/
structure ExH (K : PySem.W.Frag) (mg : Str → Option Value) (x : Str) (CH : Addr) (cs : List Nat) : Prop where
  mg : mg x = some (.ref CH)
  each : ∀ c ∈ cs, ∀ C, Glo K (exNm c) C → PySem.W.exmOne K (.ref C) (.ref CH) = some true
/-! ### the end, with tables -/
theorem lawGT_call {P : Program} {w : World} {K : PySem.W.Frag} {mg mb : Str → Option Value} {k : Nat} {fa a : Addr} {cs : List (Addr × Addr)} {TB : List (Addr × Str)} {fd : FuncData} {x : Str} {s₁ : Shared} {vs : List Value} {ns : List Int}
    (KX : K.In s₁.heap) (hns : s₁.heap.Ns mainGlobals mg) (hb : s₁.heap.Ns builtinsNs mb) (hbb : ∀ x : Str, x ≠ "__name__" → mb x = bootBuiltins x) (hlim : s₁.heap.NoLimit) (hg : s₁.gens = #[])
    (hT : ∀ p ∈ cs, s₁.heap.get? p.2 = some { cls := .none, data := .fields #[] }) (nT : ∀ p ∈ cs, K.lookup p.2 = none) (C : ∀ p ∈ cs, PySem.W.CodeHd s₁.heap p.1 p.2) (hTB : ∀ p ∈ TB, ∃ q ∈ cs, q.2 = p.1)
    (hbm : ∃ (bm : Addr) (ob : Obj), mg "__builtins__" = some (.ref bm) ∧ bm ≠ builtinsNs ∧ s₁.heap.get? bm = some ob ∧ ob.cls = .type "module" ∧ ob.dict = some builtinsNs ∧ ob.data = .plain)
    (ha : s₁.heap.get? a = some { cls := .type "list", data := .seq vs.toArray }) (hi : IntsAre vs ns) (hl0 : ns.length ≤ 63) (hr : Room k callerA)
    (F : ∀ base : Heap, K.In base → base.Ns mainGlobals mg → (∀ p ∈ cs, TabB base mg p.1 p.2) → FnG P w K mg base CX0 k fa fd [x] (spLaw K TB)) (hbind : ∀ (s : Shared) (u : Value), BindsTo s fd ⟨[u], []⟩ [(x, u)]) :
    codeAny (model P w) callerA (.call (.ref fa) ⟨[.ref a], []⟩) (fun r s' => r = .ok (.ret (.bool true)) ∧ OldK s₁.heap s'.heap ∧ s'.os = s₁.os ∧ AllBare s'.gens) s₁ := by
  have hl : ns.length ≤ sizeLine := Nat.le_trans hl0 (by decide)
  have rv := vals_ints hi
  have lenV := hi.length
  have isT : ∀ b : Addr, b ∈ cs.map (·.2) → s₁.heap.get? b = some { cls := .none, data := .fields #[] } := fun b hb => by
    obtain ⟨p, hp, e⟩ := List.mem_map.mp hb
    rw [← e]
    exact hT p hp
  have aT : a ∉ cs.map (·.2) := fun z => by
    have q := isT a z
    rw [ha] at q
    have z' : Data.seq vs.toArray _ = Data.fields #[] := congrArg Obj.data (Option.some.inj q)
    cases z'
  have memT : ∀ p ∈ cs, p.2 ∈ cs.map (·.2) := fun p hp => List.mem_map.mpr ⟨p, hp, rfl⟩
  have core : ∀ H : Hp, (∀ p ∈ cs, H p.2 = some (.tbl #[])) → (∀ b, H b = none ∨ b ∈ cs.map (·.2) ∨ ∃ o xs, H b = some (.frz o (.lst xs))) → SqL K H a (ns.map V.int) → HOk P w H s₁.heap → (∀ b, H b ≠ none → b = a ∨ b ∈ cs.map (·.2)) → (H a ≠ none → K.lookup a = none) →
      codeAny (model P w) callerA (.call (.ref fa) ⟨[.ref a], []⟩) (fun r s' => r = .ok (.ret (.bool true)) ∧ OldK s₁.heap s'.heap ∧ s'.os = s₁.os ∧ AllBare s'.gens) s₁ := by
    intro H hH hO hS hok hA hK
    have base_of : ∀ {b : Addr} {o : Obj}, s₁.heap.get? b = some o → H b = none → (hidT s₁.heap H).get? b = some o := fun e n => hidT_get e n
    have noD : ∀ {b : Addr} {o : Obj}, s₁.heap.get? b = some o → (∀ vs n, o.data ≠ .seq vs n) → o.data ≠ .fields #[] → H b = none := fun {b o} e h1 h2 => by
      cases q : H b with
      | none => rfl
      | some u =>
        rcases hA b (by rw [q]; simp) with e' | e'
        · rw [e', ha] at e
          cases e
          exact (h1 _ _ rfl).elim
        · rw [isT b e'] at e
          cases e
          exact (h2 rfl).elim
    have noA : ∀ {b : Addr} {o : Obj} {es : Array DictEntry} {ep : Nat}, s₁.heap.get? b = some o → o.data = .dict es ep → H b = none := fun {b o es ep} e d => by
      refine noD e (fun vs n z => ?_) fun z => ?_
      · rw [d] at z
        cases z
      · rw [d] at z
        cases z
    have nsK : ∀ {b : Addr} {m : Str → Option Value}, s₁.heap.Ns b m → (hidT s₁.heap H).Ns b m := fun {b m} ⟨o, es, ep, e, d, r⟩ => ⟨o, es, ep, base_of e (noA e d), d, r⟩
    have hKb : K.In (hidT s₁.heap H) := fun b o e => base_of (KX b o e) (by
      cases q : H b with
      | none => rfl
      | some u =>
        rcases hA b (by rw [q]; simp) with e' | e'
        · rw [e'] at e q
          rw [hK (by rw [q]; simp)] at e
          cases e
        · obtain ⟨p, hp, ep⟩ := List.mem_map.mp e'
          rw [← ep, nT p hp] at e
          cases e)
    have hM : L2.Mod K mg (hidT s₁.heap H) := ⟨hKb, nsK hns, ⟨mb, nsK hb, hbb⟩, let ⟨mc, h1, h2⟩ := hlim; ⟨mc, nsK h1, h2⟩⟩
    have TBb : ∀ p ∈ cs, TabB (hidT s₁.heap H) mg p.1 p.2 := fun p hp => by
      have hTp := hT p hp
      refine ⟨?_, ?_, fun z => ?_⟩
      · obtain ⟨o, us, file, tf, flags, tg, inF, text, tt, e1, r1, r2, r3, r4, r5, r6, r7, r8, hne⟩ := C p hp
        refine ⟨o, us, file, tf, flags, tg, inF, text, tt, base_of e1 (noD e1 (fun vs n z => ?_) fun z => ?_), r1, r2, r3, r4, r5, r6, r7, r8, hne⟩
        · rw [r2] at z
          cases z
        · rw [r2] at z
          cases z
          simp at r3
      · obtain ⟨bm, ob, b1, b2, b3, b4, b5, b6⟩ := hbm
        have nG : bm ≠ mainGlobals := fun q => by
          obtain ⟨o, es, ep, e, hd, _⟩ := hns
          rw [q, e] at b3
          cases b3
          rw [hd] at b6
          cases b6
        have nP : bm ≠ p.2 := fun q => by
          rw [q, hTp] at b3
          cases b3
          cases b6
        refine ⟨bm, ob, b1, b2, nG, nP, base_of b3 (noD b3 (fun vs n z => ?_) fun z => ?_), b4, b5, b6⟩
        · rw [b6] at z
          cases z
        · rw [b6] at z
          cases z
      · obtain ⟨o, es, ep, e, hd, _⟩ := hns
        rw [z, hTp] at e
        cases e
        cases hd
    have e0 : Env0 P w K mg (hidT s₁.heap H) callerA [] s₁ H := ⟨rfl, hM, fun b o e => of_hidT e, Nat.le_of_eq (hidT_size _ _), trivial, fun b hb => absurd (show b ∈ ([] : List Addr) from hb) (by simp), hok, .of_eq hg⟩
    have tabs : Tabs TB H := fun p hp => by
      obtain ⟨q, hq, e⟩ := hTB p hp
      exact TabS.nil (by rw [← e]; exact hH q hq)
    refine codeAny_mono ((F _ hKb (nsK hns) TBb).run callerA [] s₁ H ⟨[.ref a], []⟩ [.ref a] [.ref a] (fun v _ => v = .bl true) (fun _ _ _ => False) hr rfl e0 (hbind s₁ (.ref a)) (.cons rfl .nil) ⟨a, ns, rfl, hS, hl0, tabs, fun _ => rfl⟩) fun r s' h => ?_
    cases r with
    | error e => exact (show False from h).elim
    | ok fl =>
      cases fl with
      | next => exact False.elim h
      | brk => exact False.elim h
      | cont => exact False.elim h
      | ret u =>
        obtain ⟨v, H', os, bare, un, hok', r', q⟩ := h
        have q' : v = .bl true := q
        subst q'
        obtain rfl : u = Value.bool true := r'
        have key : ∀ b o, b ∉ cs.map (·.2) → s₁.heap.get? b = some o → s'.heap.get? b = some o := fun b o nb e => by
          cases q : H b with
          | none => exact un.keep b o e q (by intro z; exact absurd (show b ∈ ([] : List Addr) from z) (by simp)) (by simp)
          | some u =>
            rcases hO b with z | z | ⟨ob, xs, z⟩
            · rw [q] at z; cases z
            · exact absurd z nb
            · have z2 := un.frzs b ob _ z
              obtain ⟨e1, _⟩ := hok b _ z
              obtain ⟨e2, _⟩ := hok' b _ z2
              rw [e] at e1; cases e1
              exact e2
        have grown : ∀ p ∈ cs, ∃ more : Array Value, s'.heap.get? p.2 = some { cls := .none, data := .fields more } := fun p hp => by
          obtain ⟨more, z⟩ := un.tbls p.2 #[] (hH p hp)
          exact ⟨_, hok' p.2 _ z⟩
        refine ⟨rfl, ⟨fun b o e => ?_, fun b o e => ?_⟩, os, bare⟩
        · by_cases hb : b ∈ cs.map (·.2)
          · obtain ⟨p, hp, ep⟩ := List.mem_map.mp hb
            obtain ⟨more, hm⟩ := grown p hp
            rw [← ep] at e ⊢
            rw [hT p hp] at e
            cases e
            exact .inr (.inl ⟨((C p hp).tab (hT p hp)).isCodeTable, rfl, #[], more, rfl, by rw [Array.empty_append]; exact hm⟩)
          · exact .inl (key b o hb e)
        · by_cases hb : b ∈ cs.map (·.2)
          · obtain ⟨p, hp, ep⟩ := List.mem_map.mp hb
            obtain ⟨more, hm⟩ := grown p hp
            rw [← ep]
            exact ⟨_, hm⟩
          · exact ⟨o, key b o hb e⟩
  cases hk : K.lookup a with
  | some o =>
    have e := KX a o hk
    rw [ha] at e
    cases e
    refine core (fun b => if b ∈ cs.map (·.2) then some (.tbl #[]) else none) (fun p hp => if_pos (memT p hp)) (fun b => ?_) (.inr ⟨_, vs.toArray, _, hk, rfl, rfl, rfl, by rw [List.size_toArray, lenV]; exact hl, by simpa using rv⟩) (fun b u z => ?_) (fun b z => ?_) fun z => absurd (show (if a ∈ cs.map (·.2) then some (HO.tbl #[]) else none) = none from if_neg aT) z
    · by_cases hb : b ∈ cs.map (·.2)
      · exact .inr (.inl hb)
      · exact .inl (if_neg hb)
    · by_cases hb : b ∈ cs.map (·.2)
      · have z' := (if_pos hb).symm.trans z
        cases z'
        exact isT b hb
      · have z' := (if_neg hb).symm.trans z
        cases z'
    · by_cases hb : b ∈ cs.map (·.2)
      · exact .inr hb
      · exact absurd (if_neg hb) z
  | none =>
    refine core (fun b => if b = a then some (.frz { cls := .type "list", data := .seq vs.toArray } (.lst (ns.map V.int))) else if b ∈ cs.map (·.2) then some (.tbl #[]) else none) (fun p hp => (if_neg (show ¬ p.2 = a from fun z => aT (by rw [← z]; exact memT p hp))).trans (if_pos (memT p hp))) (fun b => ?_)
      (.inl (.inr ⟨{ cls := .type "list", data := .seq vs.toArray }, if_pos rfl⟩)) (fun b u z => ?_) (fun b z => ?_) fun _ => hk
    · by_cases hb : b = a
      · exact .inr (.inr ⟨_, _, if_pos hb⟩)
      · by_cases hb2 : b ∈ cs.map (·.2)
        · exact .inr (.inl hb2)
        · exact .inl ((if_neg hb).trans (if_neg hb2))
    · by_cases hb : b = a
      · have z' := (if_pos hb).symm.trans z
        cases z'
        rw [hb]
        exact ⟨ha, by rw [List.length_map]; exact hl, vs, _, rv, ha⟩
      · have z1 := (if_neg hb).symm.trans z
        by_cases hb2 : b ∈ cs.map (·.2)
        · have z' := (if_pos hb2).symm.trans z1
          cases z'
          exact isT b hb2
        · have z' := (if_neg hb2).symm.trans z1
          cases z'
    · by_cases hb : b = a
      · exact .inl hb
      · by_cases hb2 : b ∈ cs.map (·.2)
        · exact .inr hb2
        · exact absurd ((if_neg hb).trans (if_neg hb2)) z
def tbOf (cs : List (Str × Addr × Addr)) : List (Addr × Str) := cs.map fun p => (p.2.2, p.1 ++ ".<locals>." ++ "<lambda>")
theorem walkGT {l : PySem.W.OpenLaw} {k : Nat} {q : Program} {loose : List Str} {XP : (Str → Option Value) → Heap → Prop} {YP : World → Heap → Prop} {d : DefRec} {K : Params → PySem.W.Frag} {x : Str} (xs : List Str)
    (hn : l.most = some 63) (hdf : d.params.defaults = []) (hr : Room k callerA) (hY : ∀ (w : World) (h : Heap), YP w h → (K w.params).In h)
    (hrec : ∀ y ∈ xs, ((recsOf q).find? (fun e => e.name == y)).isSome = true) (hnt : ∀ w : World, PySem.W.noTabs (K w.params) = true)
    (F : ∀ (w : World) (mg : Str → Option Value) (fa : Addr) (h : Heap), (K w.params).In h → h.Ns mainGlobals mg → mg d.name = some (.ref fa) →
      ∃ (fd : FuncData) (cs : List (Str × Addr × Addr)), (∀ p ∈ cs, p.1 ∈ xs ∧ PySem.W.tabIn (K w.params) p.1 = some p.2) ∧ (∀ (s : Shared) (u : Value), BindsTo s fd ⟨[u], []⟩ [(x, u)]) ∧
        ∀ base : Heap, (K w.params).In base → base.Ns mainGlobals mg → (∀ p ∈ cs, TabB base mg p.2.1 p.2.2) → FnG l.prog w (K w.params) mg base CX0 k fa fd [x] (spLaw (K w.params) (tbOf cs))) :
    PySem.W.WalkO q loose XP YP l.row.toRowW d [] (fun f vs => PySem.call f vs) := by
  refine Att.attach_call hn hdf (fun w s₀ s₁ mg mb fa o pm cd doc a vs ns G Y ho hd hcd hmg hobj hints hlen hg => ?_)
  have KX := hY w _ Y
  obtain ⟨fd, cs, hcs, hb, hF⟩ := F w mg fa _ KX G.T.g hmg
  have tab : ∀ p ∈ cs, PySem.W.CodeHd s₁.heap p.2.1 p.2.2 ∧ s₁.heap.get? p.2.2 = some { cls := .none, data := .fields #[] } := fun p hp => by
    obtain ⟨h1, h2⟩ := hcs p hp
    obtain ⟨d', hd'⟩ := Option.isSome_iff_exists.mp (hrec _ h1)
    exact PySem.W.tab_of G.T KX hd' h2
  have un : ∀ p ∈ cs.map (·.2), ∃ r ∈ cs, r.2 = p := fun p hp => by
    obtain ⟨r, hr, e⟩ := List.mem_map.mp hp
    exact ⟨r, hr, e⟩
  refine lawGT_call (cs := cs.map (·.2)) (TB := tbOf cs) KX G.T.g G.T.b G.T.builtins G.T.nolimit hg (fun p hp => ?_) (fun p hp => ?_) (fun p hp => ?_) (fun p hp => ?_) G.T.bmain hobj hints hlen hr (fun base h1 h2 h3 => hF base h1 h2 fun p hp => h3 p.2 (List.mem_map.mpr ⟨p, hp, rfl⟩)) hb
  · obtain ⟨r, hr, rfl⟩ := un p hp
    exact (tab r hr).2
  · obtain ⟨r, hr, rfl⟩ := un p hp
    cases e : (K w.params).lookup r.2.2 with
    | none => rfl
    | some o =>
      have e1 := KX _ _ e
      rw [(tab r hr).2] at e1
      have h2 := List.all_eq_true.mp (hnt w) (r.2.2, o) (PySem.W.mem_of_lookupK e)
      have e3 := Option.some.inj e1
      subst e3
      exact absurd (show false = true from h2) Bool.false_ne_true
  · obtain ⟨r, hr, rfl⟩ := un p hp
    exact (tab r hr).1
  · unfold tbOf at hp
    obtain ⟨r, hr, rfl⟩ := List.mem_map.mp hp
    exact ⟨r.2, List.mem_map.mpr ⟨r, hr, rfl⟩, rfl⟩
end L2.DL
namespace L2.DL
open PySem PySem.Spec PyProof.Rows LamX
theorem takesF {X : Cx} {K : PySem.W.Frag} {F : Hp} {γ : Gm} : Takes X (wishR K F γ fun _ _ _ => False) := fun _ _ x => by
  obtain ⟨_, _, _, _, _, _, _, _, _, _, _, _, _, _, _, _, H0, env, c, x, _, _, z⟩ := x
  exact z.elim
theorem heard_mk {P : Program} {w : World} {K : PySem.W.Frag} {mg : Str → Option Value} {base : Heap} {x a : Str} {st : Stmt} {g : Addr} {fd : FuncData} {Ng : List Str} {tb : List (Addr × Str)} {bh : Act → WS} {k : Nat} (Fn : Fun K x x st g fd) (bd : Binds K fd [a] []) (S : FnScope Ng [a] (defScope st)) (mgx : mg x = some (.ref g))
    (h : ∀ (cdv : Value) (A : Around) (outer : List Env) (s : Shared) (H : Hp) (F : Hp) (γ : Gm) (act : Act), γ.tb = tb → Room k (A.deeper (envOfC x (defScope st) s.heap.objs.size g cdv)) → A.guards = some [] →
      (∀ (gr : Hp) (xc : XC) (pn : List (Addr × Obj)) (xe : Value → Shared → Prop) (p1 p2 : Pos), Same γ.gr gr → Takes ((cxOf CX0 P w K mg base Ng x (defScope st) g cdv A outer s H E0).tr pn xe) (wishR K F (γ.at gr) xc) →
        PE ((cxOf CX0 P w K mg base Ng x (defScope st) g cdv A outer s H E0).tr pn xe) (.Call (.Name a p1) [] [] p2) (tG K F (γ.at gr) (wAct act 0 xc))) →
      PSs (cxOf CX0 P w K mg base Ng x (defScope st) g cdv A outer s H E0).nox (defBody st) (tS K F γ (bh act)))
    (n0 : Ng[0]? = some a := by rfl) (va : Vis (defScope st) a := by first | exact Or.inl rfl | exact Or.inr (Or.inl rfl)) (da : (a == ("__debug__" : Str)) = false := by decide) (dc : (a == ("__classdict__" : Str)) = false := by decide) :
    HeardOk P w K mg base k x a Ng (defBody st) (defScope st) g tb bh := by
  obtain ⟨oc, od, kV, doc, pm, an, cdv, ct, osl, rfl, lk, hcd⟩ := Fn.ex
  exact ⟨⟨oc, od, _, .none, kV, doc, pm, cdv, ct, an, osl, lk, hcd, bd, h cdv⟩, S, n0, va, mgx, Fn.kp, da, dc⟩
/-- all that is known of an error class with its own __init__ -/
theorem exI_of {K : PySem.W.Frag} {C : Addr} (cl : PySem.W.isClsIn K C = true) (ga : PySem.W.findIn K (.ref C) "__getattribute__" = some (some (.builtin "BaseException.__getattribute__"))) (gg : PySem.W.findIn K (.ref C) "__getattr__" = some none) (exC : PySem.W.subIn K (.ref C) (.type "BaseException") = some true)
    (ha : PySem.W.findIn K (.ref C) "__class__" = some (some (.builtin "object.__class__"))) (hn : PySem.W.specialIn K (.builtin "object.__class__") "__get__" = some (some (.builtin "getset_descriptor.__get__"))) (ht : PySem.W.takesIn K (.builtin "object.__class__") = some true)
    (hm : PySem.W.mroIn K C (.type "object") = some true) (hd : PySem.W.hasDictIn K C = true) : ExI K C := ⟨cl, ga, gg, exC, ha, hn, ht, hm, hd⟩
end L2.DL
namespace L2.DL
open PySem PySem.Spec PyProof.Rows
theorem seqT_dummy : True := trivial
end L2.DL

set_option Elab.async false
set_option linter.all false
set_option autoImplicit false
set_option maxRecDepth 100000
/-! Words of exceptions, opened by equations. -/
namespace L2.DL
open PySem PySem.Spec
section
variable {E : WEnds} {env : List Sl} {n : Nat} {wa : WA} {xc : XC} {w : WE} {P : D → Nat → Prop} {Q : D → Prop}
theorem e_Raise {c : Nat} {ks : List Nat} : wRaise xc c ks wa E env n = wa env n fun ds n1 => ds.length = ks.length ∧ AllMsg ds ∧ xc env ⟨c, ks.reverse, ds.reverse⟩ n1 := rfl
theorem e_Try {cs : List Nat} {i m : Nat} {wb : XC → WS} : wTry cs i m wb E env n = wb (fun env' x c' => x.c ∈ cs ∧ E.nx (kept env' i m x) c') E env n := rfl
theorem isE_n {cs : List (Nat × Bool)} : isE cs .non Q = Q (.bl false) := rfl
theorem isE_x {cs : List (Nat × Bool)} {c : Nat} {ks : List Nat} {vs : List D} : isE cs (.exc c ks vs) Q = ∃ b, (c, b) ∈ cs ∧ Q (.bl b) := rfl
theorem atE_x {cs : List Nat} {f c : Nat} {ks : List Nat} {vs : List D} : atE cs f (.exc c ks vs) Q = (c ∈ cs ∧ (∀ k ∈ ks, k < 6) ∧ ∃ d, (ks.zip vs).lookup f = some d ∧ Q d) := rfl
theorem am_nil : AllMsg [] = True := rfl
theorem am_cons {d : D} {r : List D} : AllMsg (d :: r) = (d.msgOk ∧ AllMsg r) := rfl
theorem mo_s {x : Str} : D.msgOk (.str x) = (x.length ≤ 1000) := rfl
theorem kept_c {e : List Sl} {i m : Nat} {x : XD} : kept e i m x = (e.set m (.val (.exc x.c x.ks x.vs))).set i .no := rfl
theorem mask_c {s : Sl} {r : List Sl} : maskE (s :: r) = maskS s :: maskE r := rfl
theorem mask_n : maskE [] = [] := rfl
theorem maskS_v {d : D} : maskS (.val d) = .val d := rfl
theorem maskS_no : maskS .no = .no := rfl
theorem maskS_g : maskS .gau = .gau := rfl
theorem maskS_ow {t : OT} : maskS (.ow t) = .no := rfl
theorem maskS_lam : maskS .lam = .no := rfl
theorem maskS_scr : maskS .scr = .no := rfl
theorem ngx_scr : Sl.ngx .scr = true := rfl
theorem calm_scr : Sl.calm (some .scr) = true := rfl
theorem maskS_q {s : Sl} [h : Quiet s] : maskS s = s := by
  obtain ⟨h⟩ := h
  cases s <;> first | rfl | exact Bool.noConfusion h
theorem still_q {s : Sl} [h : Quiet s] : Sl.still s = true := by
  obtain ⟨h⟩ := h
  cases s <;> first | rfl | exact Bool.noConfusion h
theorem still_lam : Sl.still .lam = true := rfl
theorem still_gau : Sl.still .gau = true := rfl
end
end L2.DL

set_option Elab.async false
set_option linter.all false
set_option autoImplicit false
set_option maxRecDepth 100000
set_option maxHeartbeats 4000000
/-! isinstance of a tuple of two classes. -/
namespace L2.DL
open PySem PySem.Spec PyProof.Rows
section
variable {X : Cx} {F : Hp} {γ : Gm} {pos p p2 p3 p4 : Pos} {a : Expr} {wa : WE} {k4 : Nat}
theorem kit_any2 {K : PySem.W.Frag} {t u v : Value} {x y : Bool} (h1 : PySem.W.kitOne K t u = some x) (h2 : PySem.W.kitOne K t v = some y) : PySem.W.kitAny K t [u, v] = some (x || y) := by
  unfold PySem.W.kitAny
  rw [h1]
  cases x
  · unfold PySem.W.kitAny
    simp only [h2]
    cases y <;> rfl
  · rfl
theorem dIsi2 {Tn Un : Str} {T U : String} {g h : D → Bool} (hk : ∀ d : D, kitB d.ty T = some (g d)) (hk2 : ∀ d : D, kitB d.ty U = some (h d)) (hm : X.mg "isinstance" = none) (hT : X.mg Tn = none) (hU : X.mg Un = none) (hv : bootBuiltins Tn = some (.type T)) (hv2 : bootBuiltins Un = some (.type U)) (ha : PE X a (tG X.K F γ wa))
    (hg : Gl X "isinstance" := by rfl) (hgT : Gl X Tn := by rfl) (hgU : Gl X Un := by rfl) (hn : Tn ≠ "__name__" := by decide) (hn2 : Un ≠ "__name__" := by decide) (hdb : (Tn == ("__debug__" : Str)) = false := by decide) (hdb2 : (Un == ("__debug__" : Str)) = false := by decide)
    (hs : starEach [a, .Tuple [.Name Tn p2, .Name Un p3] k4 p4] X.env = (false, eval a X.env) :: starEach [.Tuple [.Name Tn p2, .Name Un p3] k4 p4] X.env := by rfl) (hs2 : starEach [.Tuple [.Name Tn p2, .Name Un p3] k4 p4] X.env = (false, eval (.Tuple [.Name Tn p2, .Name Un p3] k4 p4) X.env) :: starEach [] X.env := by rfl)
    (hpl : (backTo pos (starEach [.Tuple [.Name Tn p2, .Name Un p3] k4 p4] X.env)).any (·.1) = false := by rfl) :
    PE X (.Call (.Name "isinstance" p) [a, .Tuple [.Name Tn p2, .Name Un p3] k4 p4] [] pos) (tG X.K F γ (wIsi (fun d => g d || h d) wa)) := by
  refine PE.imp (pe_callB call_isiT hg hm (by decide +kernel) (pa_cons ha (pa_cons (pe_tup (pa_cons (pe_bltn (v := .ty T) hgT hT hv rfl hn hdb) (pa_cons (pe_bltn (v := .ty U) hgU hU hv2 rfl hn2 hdb2) pa_nil))) pa_nil hs2) hs) (by decide) (by decide) hs hpl) fun σ H Q hh => ?_
  obtain ⟨H0, env, c, P, R, q, k⟩ := hh
  refine ⟨H0, env, c, _, R, q, fun d c1 v H1 H01 q1 s1 R1 h1 => ?_⟩
  refine ⟨by show 2 ≤ sizeLine; rw [sizeLine_eq]; omega, fun pp hp => ?_⟩
  have sm : Same H01 (upd H01 pp (.tup [.ty T, .ty U])) := Same.new (R1.core.sub.free hp)
  exact ⟨v, pp, [.ty T, .ty U], .type d.ty, [.type T, .type U], g d || h d, rfl, upd_same, .cons (.ty _) (.cons (.ty _) .nil), .base (h1.ty (R1.core.sub.trans fun b o e => by
    rw [upd_ne (ne_of_none e hp)]
    exact e) (D.isF_of q1)), kit_any2 (kit_ty (hk d)) (kit_ty (hk2 d)), k _ _ _ _ (upd H01 pp (.tup [.ty T, .ty U])) (D.nf_pure q1) (s1.trans sm) (R1.alloc hp) (.bl _)⟩
end
/-! own classes -/
def isE2 (cs ds : List (Nat × Bool)) : D → (D → Prop) → Prop
  | .non, P => P (.bl false)
  | .exc c _ _, P => ∃ x y, (c, x) ∈ cs ∧ (c, y) ∈ ds ∧ P (.bl (x || y))
  | _, _ => False
def wIsE2 (cs ds : List (Nat × Bool)) (w : WE) : WE := fun env c P => w env c fun d c1 => isE2 cs ds d fun r => P r c1
theorem isE2_n {cs ds : List (Nat × Bool)} {Q : D → Prop} : isE2 cs ds .non Q = Q (.bl false) := rfl
theorem isE2_x {cs ds : List (Nat × Bool)} {Q : D → Prop} {c : Nat} {ks : List Nat} {vs : List D} : isE2 cs ds (.exc c ks vs) Q = ∃ x y, (c, x) ∈ cs ∧ (c, y) ∈ ds ∧ Q (.bl (x || y)) := rfl
def rIsET (K : PySem.W.Frag) (C2 C3 : Addr) : List V → Hp → VK → Prop := fun xs H Q => ∃ (x : V) (tp : Addr), xs = [x, .ref tp] ∧ H tp = some (.tup [.ref C2, .ref C3]) ∧
  ((x = .non ∧ PySem.W.kitAny K (.type "NoneType") [.ref C2, .ref C3] = some false ∧ Q (.bl false) H) ∨
    ∃ (a C dd : Addr) (fs : List (Str × V)) (b : Bool), x = .ref a ∧ H a = some (XO (.ref C) (some dd) a) ∧ H dd = some (.xd fs) ∧ ExI K C ∧ PySem.W.kitAny K (.ref C) [.ref C2, .ref C3] = some b ∧ Q (.bl b) H)
theorem call_isET {X : Cx} {C2 C3 : Addr} : CallR X (.builtin "isinstance") (rIsET X.K C2 C3) := by
  intro pins s σ H xs us Q I r h
  obtain ⟨x, tp, rfl, hT, h⟩ := h
  obtain ⟨u1, u2, rfl, r1, r2⟩ := vals2 r
  cases (show u2 = Value.ref tp from r2)
  obtain ⟨_, its, rv, o, h1, h2, n, h3⟩ := (show ObjOk X.prog X.w H s.heap tp (.tup [.ref C2, .ref C3]) from I.hok tp _ hT)
  have e3 : its = [.ref C2, .ref C3] := ClsV.all (.cons (.own C2) (.cons (.own C3) .nil)) rv
  subst e3
  obtain ⟨oc, od, dt, sl⟩ := o
  simp only at h2 h3
  subst h2 h3
  rcases h with ⟨rfl, e, q⟩ | ⟨a, C, dd, fs, b, rfl, ha, hd, T, e, q⟩
  · obtain rfl : u1 = Value.none := r1
    exact PySem.W.kia_tup PySem.W.kitx_none I.kIn True.intro h1 e (fun z => nomatch z) fun tk => ⟨.bl false, H, I.tok tk, rfl, q⟩
  · obtain rfl : u1 = Value.ref a := r1
    obtain ⟨oe, od, J, _⟩ := inst_at I ha hd
    exact PySem.W.kia_tup (PySem.W.kitx_exc T.cl T.ga T.gg T.exC T.ha T.hn T.ht T.hm) I.kIn J h1 e (fun z => nomatch z) fun tk => ⟨.bl b, H, I.tok tk, rfl, q⟩
section
variable {X : Cx} {F : Hp} {γ : Gm} {pos p p2 p3 p4 : Pos} {a : Expr} {wa : WE} {k4 : Nat} {c2 c3 : Str} {C2 C3 : Addr} {cs ds : List (Nat × Bool)}
theorem dIsE2 (hc : IsF X.K X.mg c2 C2 cs) (hc3 : IsF X.K X.mg c3 C3 ds) (hm : X.mg "isinstance" = none) (ha : PE X a (tG X.K F γ wa)) (hg : Gl X "isinstance" := by rfl) (hg2 : Gl X c2 := by rfl) (hg3 : Gl X c3 := by rfl) (hdb : (c2 == ("__debug__" : Str)) = false := by decide) (hdb3 : (c3 == ("__debug__" : Str)) = false := by decide)
    (hs : starEach [a, .Tuple [.Name c2 p2, .Name c3 p3] k4 p4] X.env = (false, eval a X.env) :: starEach [.Tuple [.Name c2 p2, .Name c3 p3] k4 p4] X.env := by rfl) (hs2 : starEach [.Tuple [.Name c2 p2, .Name c3 p3] k4 p4] X.env = (false, eval (.Tuple [.Name c2 p2, .Name c3 p3] k4 p4) X.env) :: starEach [] X.env := by rfl)
    (hpl : (backTo pos (starEach [.Tuple [.Name c2 p2, .Name c3 p3] k4 p4] X.env)).any (·.1) = false := by rfl) :
    PE X (.Call (.Name "isinstance" p) [a, .Tuple [.Name c2 p2, .Name c3 p3] k4 p4] [] pos) (tG X.K F γ (wIsE2 cs ds wa)) := by
  refine PE.imp (pe_callB (call_isET (C2 := C2) (C3 := C3)) hg hm (by decide +kernel) (pa_cons ha (pa_cons (pe_tup (pa_cons (pe_glob (v := .ref C2) hg2 hc.mg rfl hdb) (pa_cons (pe_glob (v := .ref C3) hg3 hc3.mg rfl hdb3) pa_nil))) pa_nil hs2) hs) (by decide) (by decide) hs hpl) fun σ H Q h => ?_
  obtain ⟨H0, env, c, P, R, q, k⟩ := h
  refine ⟨H0, env, c, _, R, q, fun d c1 v H1 H01 q1 s1 R1 h1 => ?_⟩
  refine ⟨by show 2 ≤ sizeLine; rw [sizeLine_eq]; omega, fun pp hp => ?_⟩
  have sm : Same H01 (upd H01 pp (.tup [.ref C2, .ref C3])) := Same.new (R1.core.sub.free hp)
  have up : ∀ {b o}, H01 b = some o → upd H1 pp (.tup [.ref C2, .ref C3]) b = some o := fun {b o} e => by
    have e1 := R1.core.sub _ _ e
    rw [upd_ne (ne_of_none e1 hp)]
    exact e1
  cases h1 with
  | non => exact ⟨.non, pp, rfl, upd_same, .inl ⟨rfl, kit_any2 (kit_non hc.cl hc.ty hc.nn) (kit_non hc3.cl hc3.ty hc3.nn), k _ _ _ _ _ q1 (s1.trans sm) (R1.alloc hp) (.bl _)⟩⟩
  | @exc ea C dd c' fs ks ds hG hx hd _ _ =>
    obtain ⟨x, y, hb, hb2, q2⟩ := q1
    obtain ⟨T, hsub⟩ := hc.each _ hb C hG
    obtain ⟨_, hsub2⟩ := hc3.each _ hb2 C hG
    exact ⟨_, pp, rfl, upd_same, .inr ⟨ea, C, dd, fs, x || y, rfl, up hx, up hd, T, kit_any2 (kit_refs hc.cl hc.ty hsub (fun e => by
      subst e
      rw [hc.self] at hsub
      exact (Option.some.inj hsub).symm)) (kit_refs hc3.cl hc3.ty hsub2 (fun e => by
      subst e
      rw [hc3.self] at hsub2
      exact (Option.some.inj hsub2).symm)), k _ _ _ _ _ q2 (s1.trans sm) (R1.alloc hp) (.bl _)⟩⟩
  | _ => exact (show False from q1).elim
end
end L2.DL

set_option Elab.async false
set_option linter.all false
set_option autoImplicit false
set_option maxRecDepth 100000
set_option maxHeartbeats 4000000
/-! len(set(xs)), xs a tuple of texts. -/
namespace L2.DL
open PySem PySem.Spec PyProof.Rows
section
variable {prog : Program} {w : World} {A : Around} {E : Value → Shared → Prop} {s : Shared}
set_option maxHeartbeats 3200000 in
theorem set_tupStrs {l : Addr} {items : Array Value} {xs : List Str} {Q : Value → Shared → Prop}
    (hh : A.handled = none) (hl : s.heap.IsTuple l items) (hi : StrsAre items.toList xs) (hb : xs.length + 1 < scanBound)
    (h : ∀ (h' : Heap) (tk : Nat), h'.SetOf (PySem.strKind prog w) s.heap.objs.size (fun k' => (dd xs).any (· == k')) (dd xs).length →
      (∀ b o, b < s.heap.objs.size → s.heap.get? b = some o → h'.get? b = some o) → Q (.ref s.heap.objs.size) { s with heap := h', toks := tk }) :
    wpAny (model prog w) A (call (.type "set") [.ref l]) Q E s := by
  have hsz : xs.length = items.size := by rw [← StrsAre.len_eq hi, Array.length_toList]
  obtain ⟨ol, hol, hcl, nl, hdl⟩ := hl
  obtain ⟨ocls, odict, odata, oslots⟩ := ol
  simp only at hcl hdl
  subst hcl hdl
  obtain ⟨c, tl, hmro⟩ := PySem.F.called_set.mro
  have hmade := PySem.F.called_set.made
  have hsub := PySem.F.called_set.sub
  refine wpAny_call (codeAny_of_tree ?_)
  show wpAny _ _ (callAny (.type "set") _) _ _ _
  refine wpAny_pure ⟨Code.quiet_builtin _ (by decide +kernel), codeAny_builtin PySem.F.entry_type_call ?_⟩
  rw [Around.under_plain (weight_type_call_type "set" [.ref l] []) rfl]
  have h1 := PySem.F.called_set.notType
  have h2 := PySem.F.called_set.canCreate
  have hct := PySem.F.typeCall_set_1 (.ref l)
  repeat (any_goals (first | assumption | wp_step))
  refine codeAny_mono (code_set_new_1 (.ref l) (E := E) (Q₁ := fun obj s₁ => ∃ led : Bool, obj = .ref s.heap.objs.size ∧ s₁ = { s with heap := s.heap.push { cls := .type "set", dict := none, data := .set #[] 0 (.fresh 0 0 led) } }) fun led => ⟨led, rfl, rfl⟩) fun r s₁ hr => ?_
  rcases r with e | fl
  · exact hr
  rcases fl with _ | _ | _ | obj <;> try exact hr.elim
  obtain ⟨led, rfl, rfl⟩ := hr
  have hS : (s.heap.push { cls := .type "set", dict := none, data := .set #[] 0 (.fresh 0 0 led) }).get? s.heap.objs.size = some { cls := .type "set", dict := none, data := .set #[] 0 (.fresh 0 0 led) } := Heap.get?_push_size _ rfl
  have hT : Shared.TypeIs { s with heap := s.heap.push { cls := .type "set", dict := none, data := .set #[] 0 (.fresh 0 0 led) } } (.ref s.heap.objs.size) "set" := ⟨_, hS, rfl⟩
  have hli := PySem.F.called_set.init.lookup
  have hbi := PySem.F.called_set.init.bind (.ref s.heap.objs.size)
  repeat (any_goals (first | assumption | wp_step))
  refine codeAny_mono (codeAny_call_builtin (R := wants (fun r s₂ => r = .none ∧ ∃ h' tk, s₂ = { s with heap := h', toks := tk } ∧
      h'.SetOf (PySem.strKind prog w) s.heap.objs.size (fun k' => (dd xs).any (· == k')) (dd xs).length ∧
      (∀ b o, b < s.heap.objs.size → s.heap.get? b = some o → h'.get? b = some o)) E) PySem.F.called_set.init.plain PySem.F.entry_set_init (check_set_init_1 hT ?_)) fun r₂ s₂ hr₂ => ?_
  · have hol' : (s.heap.push { cls := .type "set", dict := none, data := .set #[] 0 (.fresh 0 0 led) }).get? l = some { cls := .type "tuple", dict := odict, data := .seq items nl, slots := oslots } := Heap.get?_push_of_some _ hol
    have hsls := PySem.F.sub_tuple_set
    have hslf := PySem.F.sub_tuple_frozenset
    have hne : (Value.type "tuple" == Value.type "dict") = false := by decide
    have hl1 : (s.heap.push { cls := .type "set", dict := none, data := .set #[] 0 (.fresh 0 0 led) }).IsTuple l items := ⟨_, hol', rfl, nl, rfl⟩
    unfold Builtin.«set.__init__» noKeywords Builtin.Frozenset.updateFrom
    generalize hPI : pyIter = PI
    wp_walk
    subst hPI
    refine wpAny_pyIter_tuple hl1 ?_
    refine wpAny_bind (wpAny_runValue ?_)
    have hlS : l < s.heap.objs.size := Heap.lt_size hol
    have hh3 : A.in1.in1.in1.handled = none := by simp [hh]
    have hneI : l ≠ (s.heap.push { cls := .type "set", dict := none, data := .set #[] 0 (.fresh 0 0 led) }).objs.size := by
      rw [Heap.size_push]; exact Nat.ne_of_lt (Nat.lt_succ_of_lt hlS)
    have hSf : s.heap.objs.size ∉ [(s.heap.push { cls := .type "set", dict := none, data := .set #[] 0 (.fresh 0 0 led) }).objs.size, l] := by
      rw [Heap.size_push]; simp only [List.mem_cons, List.mem_singleton, List.not_mem_nil, or_false, not_or]
      exact ⟨Nat.ne_of_lt (Nat.lt_succ_self _), Nat.ne_of_gt hlS⟩
    have hval : ∀ (i : Nat) (v : Value), items[i]? = some v → ∃ t, v = .str (xs.getD i Str.empty) t := fun i v hv => SS.strs_at hi i v (by rw [Array.getElem?_toList]; exact hv)
    have hget : ((s.heap.push { cls := .type "set", dict := none, data := .set #[] 0 (.fresh 0 0 led) }).push { cls := .type "tuple_iterator", data := .fields #[.ref l, .int 0 0] }).get? s.heap.objs.size
        = some { cls := .type "set", dict := none, data := .set #[] 0 (.fresh 0 0 led) } := Heap.get?_push_of_some _ hS
    refine loopStrs ((Walks.tuple hh3 _ l hneI items).toS) s.heap.objs.size hSf xs hsz (by rw [← hsz]; exact hb) hval (items.size - 0) 0 _ (by omega) (Nat.zero_le _)
      ⟨⟨_, Heap.get?_push_size _ rfl, rfl, rfl⟩, (hl1.push _)⟩
      (PyProof.Rows.SetOf_congr ((PyProof.Rows.setObjOf_fresh (knd := PySem.strKind prog w) led).setOf hget (by unfold scanBound; omega)) (fun _ => rfl) rfl) ?_
    intro s' hm hS'
    rw [← hsz, List.take_length] at hS'
    obtain ⟨h', g', d', tk', os'⟩ := s'
    have eg : g' = s.gens := hm.gens
    have ed : d' = s.drawn := hm.drawn
    have eo : os' = s.os := hm.os
    subst eg ed eo
    show wpAny _ _ _ _ _ _
    refine wpAny_pure ?_
    show wpAny _ _ (ret Value.none) _ _ _
    refine wpAny_pure ⟨rfl, h', tk', rfl, hS', fun b o hb e => ?_⟩
    have hb1 : b ≠ s.heap.objs.size := Nat.ne_of_lt hb
    have hb2 : b ≠ (s.heap.push { cls := .type "set", dict := none, data := .set #[] 0 (.fresh 0 0 led) }).objs.size := by
      rw [Heap.size_push]; exact Nat.ne_of_lt (Nat.lt_succ_of_lt hb)
    exact hm.heap b o (by simp only [List.mem_cons, List.mem_singleton, List.not_mem_nil, or_false, not_or]; exact ⟨hb1, hb2⟩) (Heap.get?_push_of_some _ (Heap.get?_push_of_some _ e))
  · rcases r₂ with e | fl₂
    · exact hr₂
    rcases fl₂ with _ | _ | _ | r <;> try exact hr₂.elim
    obtain ⟨rfl, h', tk, rfl, hS', hk'⟩ := hr₂
    repeat (any_goals (first | assumption | wp_step))
    exact h _ _ hS' hk'
end
section
variable {X : Cx} {F : Hp} {γ : Gm} {pos : Pos}
def tLenSetT (K : PySem.W.Frag) (ta : TE) : TE := fun σ H Q => ta σ H fun x H1 => ∃ l, ∃ xs : List Str, x = .ref l ∧ SqT K H1 l (xs.map V.str) ∧ xs.length ≤ 4000 ∧ Q (.int ((dd xs).length : Nat)) H1
theorem pe_lenSetT {a : Expr} {ta : TE} {p p2 q : Pos} (hc : X.calm = true) (hg : Gl X "len") (hm : X.mg "len" = none) (hg2 : Gl X "set") (hm2 : X.mg "set" = none) (ha : PE X a ta)
    (na : starEach [a] X.env = (false, eval a X.env) :: starEach [] X.env := by rfl) : PE X (.Call (.Name "len" p) [.Call (.Name "set" p2) [a] [] q] [] pos) (tLenSetT X.K ta) := by
  refine ⟨fun pins s σ H Q I h => ?_⟩
  refine Call_ (ld_blt I hg hm boot_len ?_)
  refine PyProof.Rows.callWith_builtin1 (PyProof.Rows.args_cons ?_ rfl) rfl rfl
  refine Call_ (ld_blt I hg2 hm2 boot_set ?_)
  refine PyProof.Rows.callWith_type1 (PyProof.Rows.args_cons (thn (ha.run pins s σ H _ I h) fun v s1 ⟨x, H1, I1, r1, q1⟩ => PyProof.Rows.args_nil ?_) na) na rfl
  obtain ⟨l, xs, rfl, hq, h1, q1⟩ := q1
  cases r1
  obtain ⟨its, r, pl, hz⟩ := I1.tuple hq
  refine set_tupStrs (I1.ok.hd hc) pl (by simpa using L2.strsAre_of r) (by unfold scanBound; omega) fun h' tk hS hk => ?_
  refine PyProof.Rows.args_nil ?_
  obtain ⟨o, es, ep, t, ho, hex, hd, _, _, _, hf, hn⟩ := hS
  have I2 : Inv X pins σ H1 { s1 with heap := h', toks := tk } := I1.kept fun b o e => hk b o (Heap.lt_size e) e
  have hle := dd_len_le xs
  exact call_len_set ho hex hd hf (by rw [hn] <;> omega) ⟨.int (dd xs).length, H1, I2.tok _, ⟨_, by rw [hn]⟩, q1⟩
/-- len(set(xs)), xs a tuple of texts -/
def wLenSetT (we : WE) : WE := fun env c P => we env c fun d c1 => ∃ ds zs, d = .tup ds ∧ D.strs ds = some zs ∧ zs.length ≤ 4000 ∧ P (.int ((dd zs).length : Nat)) c1
theorem dLenSetT {we : WE} {x : Expr} {p p2 q : Pos} (hx : PE X x (tG X.K F γ we)) (hm : X.mg "len" = none) (hm2 : X.mg "set" = none) (hg : Gl X "len" := by rfl) (hg2 : Gl X "set" := by rfl) (hc : X.calm = true := by rfl)
    (na : starEach [x] X.env = (false, eval x X.env) :: starEach [] X.env := by rfl) : PE X (.Call (.Name "len" p) [.Call (.Name "set" p2) [x] [] q] [] pos) (tG X.K F γ (wLenSetT we)) := PE.imp (pe_lenSetT hc hg hm hg2 hm2 hx na) fun σ H Q h => by
  obtain ⟨H0, env, c, P, R, q, k⟩ := h
  exact ⟨H0, env, c, _, R, q, fun d c1 v H1 H01 ⟨ds, zs, e, es, z1, q1⟩ ss R1 h1 => by
    subst e
    cases h1 with
    | tup a1 a2 => exact ⟨_, zs, rfl, by rw [← strs_of a2 es]; exact SqT.of (R1.core.sub _ _ a1), z1, k _ _ _ _ _ q1 ss R1 (.int _)⟩⟩
end
end L2.DL

set_option Elab.async false
set_option linter.all false
set_option autoImplicit false
set_option maxRecDepth 100000
set_option maxHeartbeats 4000000
/-! x += e, x -= e for ints. -/
namespace L2.DL
open PySem PySem.Spec PyProof.Rows
def wAug (i : Nat) (f : Int → Int → Int) (w : WE) : WS := fun E env c => ∃ a : Int, env[i]? = some (.val (.int a)) ∧ w env c fun d c1 => ∃ b : Int, d = .int b ∧ E.nx (env.set i (.val (.int (f a b)))) c1
theorem e_Aug {i : Nat} {f : Int → Int → Int} {w : WE} {E : WEnds} {env : List Sl} {c : Nat} : wAug i f w E env c = ∃ a : Int, env[i]? = some (.val (.int a)) ∧ w env c fun d c1 => ∃ b : Int, d = .int b ∧ E.nx (env.set i (.val (.int (f a b)))) c1 := rfl
section
variable {X : Cx} {F : Hp} {γ : Gm} {pos : Pos} {e : Expr} {we : WE}
theorem dsAug (i : Nat) {x : Str} {op : Operator} {f : Int → Int → Int} {pos' : Pos} (ho : PIp X op (ipI f)) (h : PE X e (tG X.K F γ we)) (hN : X.N.Nodup) (hi : X.N[i]? = some x := by rfl) (hx : Loc X.env.scope x := by first | exact Or.inl rfl | exact Or.inr rfl)
    (hf : X.fn x = true ∨ X.env.scope.names.lookup x = some .local := by first | exact .inl rfl | exact .inr rfl | assumption) : PS X (.AugAssign (.Name x pos') op e pos) (tS X.K F γ (wAug i f we)) := PS.imp (ps_aug hN hi hx h ho hf) fun E σ H h => by
  obtain ⟨H0, env, c, D, R, ⟨a, ea, q⟩, k1, k2, k3, k4⟩ := h
  have hl := R.len
  obtain ⟨hi', _⟩ := List.getElem?_eq_some_iff.mp ea
  have h2 : σ[i]? = some σ[i] := List.getElem?_eq_getElem (by omega)
  obtain ⟨u, e2, hu⟩ := R.at_ i _ _ h2 ea
  cases hu
  refine ⟨.int a, by rw [h2, e2], H0, env, c, _, R, q, fun d c1 v H1 H01 q1 s1 R1 h1 => ?_⟩
  obtain ⟨b, eb, q2⟩ := q1
  subst eb
  cases h1
  exact ⟨a, b, rfl, rfl, k1 _ _ _ _ _ q2 s1 (R1.setVal (.int _) i)⟩
end
end L2.DL

set_option Elab.async false
set_option linter.all false
set_option autoImplicit false
set_option maxRecDepth 100000
set_option maxHeartbeats 4000000
/-! Starred arguments, starred items. -/
namespace L2.DL
open PySem PySem.Spec PyProof.Rows
/-- *e among items: a list or a tuple -/
def wStar (w : WE) (r : WA) : WA := fun env c P => w env c fun d c1 => ∃ ds, (d = .lst ds ∨ d = .tup ds) ∧ r env c1 fun es c2 => P (ds ++ es) c2
section
variable {X : Cx} {F : Hp} {γ : Gm} {pos p q : Pos} {e : Expr} {es : List Expr} {we : WE} {wr : WA}
theorem star_read {K : PySem.W.Frag} {σ : St} {H : Hp} {Q : List V → Hp → Prop} (h : tA K F γ (wStar we wr) σ H Q) : StX.tStar K (tG K F γ we) (tA K F γ wr) σ H Q := by
  obtain ⟨H0, env, c, P, R, q, k⟩ := h
  refine ⟨H0, env, c, _, R, q, fun d c1 v H1 H01 ⟨ds, ed, q1⟩ s1 R1 h1 => ?_⟩
  have go : ∀ xs, HasL K H01 xs ds → tA K F γ wr σ H1 fun ys H2 => Q (xs ++ ys) H2 := fun xs hx =>
    ⟨H01, env, c1, _, R1, q1, fun es c2 ys H2 H02 q2 s2 R2 h2 => k _ _ _ _ _ q2 (s1.trans s2) R2 ((HasL.mono s2 hx).append h2)⟩
  rcases ed with ed | ed
  · subst ed
    cases h1 with
    | lst ha hx => exact ⟨_, _, rfl, .inr (.inl (.inl (R1.core.sub _ _ ha))), go _ hx⟩
  · subst ed
    cases h1 with
    | tup ha hx => exact ⟨_, _, rfl, .inl (.inl (.inl (R1.core.sub _ _ ha))), go _ hx⟩
theorem daStar (he : PE X e (tG X.K F γ we)) (hr : PA X es (tA X.K F γ wr)) (hs : starEach (.Starred e p :: es) X.env = (true, eval e X.env) :: starEach es X.env := by rfl) : PA X (.Starred e p :: es) (tA X.K F γ (wStar we wr)) :=
  PA.imp (StX.pa_star he hr hs) fun σ H Q h => star_read h
end
section
variable {X : Cx} {CX : CXT} {k n : Nat} {f : Addr} {fd : FuncData} {ps : List Str} {sp : Sp} {dvs : List V} {ds : List Value} {E : XK} {x : Str} {p p2 pos : Pos} {e : Expr} {es : List Expr} {te : TE} {F : Hp} {γ : Gm} {we : WE} {t : TA}
theorem pe_callGS (G : FnG X.prog X.w X.K X.mg X.base CX k f fd ps sp) (hr : Room k X.A) (hgd : X.A.guards = some []) (hm : X.mg x = some (.ref f)) (hk : PySem.W.keepIn X.K (.ref f) = true) (hb : Binds X.K fd ps ds) (hd : Vals dvs ds) (hx : Passes CX X E) (he : PE X e te) (hg : Gl X x)
    (hdb : (x == ("__debug__" : Str)) = false) (hst : starEach [.Starred e p2] X.env = [(true, eval e X.env)]) :
    PE X (.Call (.Name x p) [.Starred e p2] [] pos) (tCall sp dvs E (StX.tStar X.K te tNil)) := by
  refine ⟨fun pins s σ H Q I h => wpAny_Call_Name_kw (ld_glob I hg hm ?_ hdb)⟩
  refine PySem.W.callWith_S (h₀ := X.base) I.ok.mod.kin hk (thn (he.run pins s σ H _ I h) fun v s1 ⟨y, H1, I1, ry, a, xs, ey, hxs, q⟩ => ?_) hst
  subst ey
  obtain rfl : v = Value.ref a := ry
  refine StX.star_any I1 hxs fun us s2 I2 rv => ⟨I2.kIn, runG G hr hgd hb hd hx I2 rv ?_⟩
  have q' : sp (xs ++ [] ++ dvs) H1 Q E := q
  rw [List.append_nil] at q'
  exact q'
/-- f(*e) of data alone -/
theorem dCallS {T : TP} (G : FnG X.prog X.w X.K X.mg X.base CX0 k f fd ps (spP X.K γ.tb n T)) (hr : Room k X.A) (hgd : X.A.guards = some []) (hm : X.mg x = some (.ref f)) (hk : PySem.W.keepIn X.K (.ref f) = true) (hb : Binds X.K fd ps []) (he : PE X e (tG X.K F γ we)) (hg : Gl X x := by rfl)
    (hdb : (x == ("__debug__" : Str)) = false := by decide) (hst : starEach [.Starred e p2] X.env = [(true, eval e X.env)] := by rfl) :
    PE X (.Call (.Name x p) [.Starred e p2] [] pos) (tG X.K F γ (wCall n T [] (wStar we wNil))) := PE.imp (pe_callGS G hr hgd hm hk hb .nil pass0 he hg hdb hst) fun σ H Q h => by
  obtain ⟨H0, env, c, P, R, q, k⟩ := h
  refine ⟨H0, env, c, _, R, q, fun d c1 v H1 H01 ⟨ds, ed, hn, q1⟩ s1 R1 h1 => ?_⟩
  rw [List.append_nil, List.append_nil] at hn q1
  have go : ∀ xs, HasL X.K H01 xs ds → tNil σ H1 fun ys H2 => spP X.K γ.tb n T (xs ++ ys ++ []) H2 Q E0 := fun xs hx => by
    show spP X.K γ.tb n T (xs ++ [] ++ []) H1 Q E0
    rw [List.append_nil, List.append_nil]
    refine ⟨_, _, H01, ds, _, R1.core.forP, hx, hn, q1, fun d v H' H0' q2 s2 C2 h2 => ?_⟩
    exact k _ _ _ _ _ q2 (s1.trans s2) (R1.after C2 s2) h2
  rcases ed with ed | ed
  · subst ed
    cases h1 with
    | lst ha hx => exact ⟨_, _, rfl, .inr (.inl (.inl (R1.core.sub _ _ ha))), go _ hx⟩
  · subst ed
    cases h1 with
    | tup ha hx => exact ⟨_, _, rfl, .inl (.inl (.inl (R1.core.sub _ _ ha))), go _ hx⟩
end
end L2.DL

set_option Elab.async false
set_option linter.all false
set_option autoImplicit false
set_option maxRecDepth 100000
set_option maxHeartbeats 4000000
/-! The law's own script, asked whether it is empty. -/
namespace L2.DL
open PySem PySem.Spec PyProof.Rows
/-- script != []: anything may come -/
def wScr (i : Nat) : WT := fun env c P => env[i]? = some .scr ∧ ∀ b, P b c
theorem SqL.more {K : PySem.W.Frag} {H H' : Hp} (e : Same H H') {a : Addr} {xs : List V} (h : SqL K H a xs) : SqL K H' a xs := by
  rcases h with h | h
  · exact .inl (SameRd e h)
  · exact .inr h
theorem dps_ints {K : PySem.W.Frag} {H : Hp} : ∀ ns : List Int, DpAll K H (ns.map V.int) (D.ps (ns.map D.int))
  | [] => .nil
  | n :: ns => .cons (.int n) (dps_ints ns)
theorem dk_ints (ns : List Int) : Dk 1 (.lst (ns.map D.int)) := by
  haveI : DkL 0 (ns.map D.int) := dkl_of fun d hd => by
    obtain ⟨n, _, rfl⟩ := List.mem_map.mp hd
    infer_instance
  infer_instance
section
variable {X : Cx} {F : Hp} {γ : Gm} {p q pos : Pos} {x : Str}
theorem dtScr (i : Nat) (hu : X.A.units + 64 < cLine) (hv : PE X (.Name x p) (tVar i)) (hm : behindInMarks .NotEq (.List [] q) = false) : PT X (.Compare (.Name x p) [.NotEq] [.List [] q] pos) (tT X.K F γ (wScr i)) := by
  refine ⟨fun pins s σ H Q I h => ?_⟩
  obtain ⟨H0, env, c, P, R, ⟨eg, hb⟩, k⟩ := h
  have hl := R.len
  obtain ⟨hi, _⟩ := List.getElem?_eq_some_iff.mp eg
  have h2 : σ[i]? = some σ[i] := List.getElem?_eq_getElem (by omega)
  obtain ⟨a, ns, e2, hS⟩ := R.at_ i _ _ h2 eg
  have hS2 : SqL X.K H a (ns.map V.int) := SqL.more R.core.sub hS
  refine wpAny_isTrue_Compare1 (thn (hv.run pins s σ H (fun y H1 => y = V.ref a ∧ H1 = H) I ⟨.ref a, by rw [h2, e2], rfl, rfl⟩) fun v s1 ⟨y, H1, I1, r1, e1, e3⟩ => ?_) hm
  subst e1 e3
  refine thn ((pe_lst pa_nil).run pins s1 σ H1 (fun z H2 => ∃ b, H1 b = none ∧ z = V.ref b ∧ H2 = upd H1 b (.lst [])) I1 ⟨Nat.zero_le _, fun b hb => ⟨b, hb, rfl, rfl⟩⟩) fun u s2 ⟨z, H2, I2, r2, b, hn, e4, e5⟩ => ?_
  subst e4 e5
  have R2 := R.alloc (o := .lst []) hn
  have s01 : Same H0 (upd H0 b (.lst [])) := Same.new (R.core.sub.free hn)
  have h1 : Dp X.K (upd H1 b (.lst [])) (.ref a) (D.p (.lst (ns.map D.int))) := .lst (SqL.more (Same.new hn) hS2) (dps_ints ns)
  have h3 : Dp X.K (upd H1 b (.lst [])) (.ref b) (D.p (.lst [])) := .lst (SqL.of upd_same) .nil
  have k1 := Dk.ok (dk_ints ns) (by decide)
  have k2 : D.deepOk (.lst []) = true := Dk.ok (k := 1) inferInstance (by decide)
  unfold D.deepOk at k1 k2
  rw [Bool.and_eq_true] at k1 k2
  refine thn (op_neD hu pins s2 σ (upd H1 b (.lst [])) _ _ v u (fun t H3 => ∃ b, t = .bl b ∧ Q b H3) I2 r1 r2 ⟨_, _, h1, h3, k1.2, k2.2, _, rfl, k _ _ _ _ (hb _) s01 R2⟩) fun d s3 ⟨t, H3, I3, r3, b, e, q3⟩ => ?_
  subst e
  cases r3
  exact wpAny_truthy_bool ⟨H3, I3, q3⟩
end
theorem lessT_sql {K : PySem.W.Frag} {T : List (Addr × Str)} {H H' : Hp} {g a : Addr} {xs : List V} (hS : SqL K H a xs) (s0 : Same H H') (hg : H g = none) (hT : LamX.Tabs T H) : SqL K (lessT T H' g) a xs := by
  have go : ∀ o, H a = some o → (∀ ps, o ≠ .tbl ps) → lessT T H' g a = some o := fun o ho hn => by
    unfold lessT
    rw [if_neg]
    · exact s0 _ _ ho
    · rintro (z | z)
      · rw [z, hg] at ho; cases ho
      · obtain ⟨p, hp, e⟩ := List.mem_map.mp z
        obtain ⟨ps, h1, _⟩ := hT p hp
        rw [e, ho] at h1
        cases h1
        exact hn _ rfl
  rcases hS with (h | ⟨o, h⟩) | h
  · exact .inl (.inl (go _ h fun _ => HO.noConfusion))
  · exact .inl (.inr ⟨o, go _ h fun _ => HO.noConfusion⟩)
  · exact .inr h
theorem law_readS {K : PySem.W.Frag} {T : List (Addr × Str)} {i m : Nat} {w : WS} {a : Addr} {ns : List Int} {N : List Str} {H : Hp} {Q : VK} (hS : SqL K H a (ns.map V.int)) (hl : ns.length ≤ 63) (hT : LamX.Tabs T H) (hN : N.length = m) (hi : 0 < i ∧ i < m) (hQ : ∀ H', Q (.bl true) H')
    (hw : w ⟨fun _ _ => False, fun d _ => d = .bl true, fun _ _ => False, fun _ _ => False⟩ (((List.replicate m .no).set 0 .scr).set i .gau) 0) :
    tSeq (tAsg (tCall (spMk K) [] E0 (tCons (tVar 0) tNil)) (gName i)) (exS K T w) { nx := fun _ H' => Q .non H', rt := Q } (start N [.ref a]) H := by
  have e0 : (start N [V.ref a])[0]? = some (some (V.ref a)) := by simp [start]
  refine ⟨.ref a, e0, a, ns, rfl, hS, hl, fun g H' s0 hg G => ?_⟩
  have hT' : LamX.Tabs T H' := hT.ext fun b o e => s0 b o e
  refine ⟨fun _ => none, g, lessT T H' g, lessT T H' g, _, 0, _, ⟨⟨fun b o e => lessT_inv e, fun b o e => (nomatch (show (none : Option HO) = some o from e)), fun g' e => ?_, Same.refl _, hT', fun p hp => ⟨by unfold lessT; rw [if_pos (.inr (List.mem_map.mpr ⟨p, hp, rfl⟩))], rfl⟩⟩, (by simp [start, hN]; omega), fun j o sl h1 h2 => ?_, fun j k b ds es n h1 h2 h3 h4 => ?_⟩, hw, ?_, ?_, ?_, ?_⟩
  · cases e
    exact ⟨rfl, by unfold lessT; rw [if_pos (.inl rfl)], G.lessT hT'⟩
  · rcases set_get h2 with ⟨e3, e4⟩ | ⟨e3, e4⟩
    · subst e4
      rcases set_get h1 with ⟨e5, e6⟩ | ⟨e5, e6⟩
      · subst e6; exact ⟨g, rfl, rfl⟩
      · exact absurd e3 e5
    · rcases set_get e4 with ⟨e7, e8⟩ | ⟨e7, e8⟩
      · subst e8
        rcases set_get h1 with ⟨e5, e6⟩ | ⟨e5, e6⟩
        · omega
        · rw [← e7, e0] at e6
          cases e6
          exact ⟨a, ns, rfl, lessT_sql hS s0 hg hT⟩
      · rw [List.getElem?_replicate] at e8
        split at e8
        · cases e8; trivial
        · cases e8
  · rcases set_get h2 with ⟨e3, e4⟩ | ⟨e3, e4⟩
    · cases e4
    · rcases set_get e4 with ⟨e7, e8⟩ | ⟨e7, e8⟩
      · cases e8
      · rw [List.getElem?_replicate] at e8
        split at e8 <;> cases e8
  · exact fun _ _ _ _ _ q => False.elim q
  · intro d c' v H2 H0' q _ _ hd
    subst q
    cases hd
    exact hQ H2
  · exact fun _ _ _ _ _ q => False.elim q
  · exact fun _ _ _ _ _ q => False.elim q
section
variable {P : Program} {w : World} {K : PySem.W.Frag} {mg : Str → Option Value} {base : Heap} {x qual : Str} {st : Stmt} {f cc : Addr} {fd : FuncData} {N : List Str} {ps0 : Str} {k : Nat} {TB : List (Addr × Str)}
theorem dFnLawS {i m : Nat} {wl : WS} (Fn : Fun K x qual st f fd) (S : FnScope N [ps0] (defScope st)) (hN : N.length = m) (hi : 0 < i ∧ i < m)
    (hw : wl ⟨fun _ _ => False, fun d _ => d = .bl true, fun _ _ => False, fun _ _ => False⟩ (((List.replicate m .no).set 0 .scr).set i .gau) 0)
    (hb : ∀ (cdv : Value) (A : Around) (outer : List Env) (s : Shared) (H : Hp) (E : XK), Room k (A.deeper (envOfC qual (defScope st) s.heap.objs.size f cdv)) → (A.deeper (envOfC qual (defScope st) s.heap.objs.size f cdv)).guards = some [] →
      PSs (cxOf CX0 P w K mg base N qual (defScope st) f cdv A outer s H E).nox (defBody st) (tSeq (tAsg (tCall (spMk K) [] E0 (tCons (tVar 0) tNil)) (gName i)) (exS K TB wl))) :
    FnG P w K mg base CX0 (k + 1) f fd [ps0] (spLaw K TB) := by
  obtain ⟨oc, od, kV, doc, pm, an, cdv, ct, osl, rfl, lk, hcd⟩ := Fn.ex
  refine fnG_of lk hcd S (fun vs H Q E ⟨a, ns, e, _⟩ => by rw [e]; rfl) fun A outer s H vs Q E hr hgd h => ?_
  obtain ⟨a, ns, rfl, hS, hl, hT, hQ⟩ := h
  exact ⟨_, (hb cdv A outer s H E hr hgd).nox, law_readS hS hl hT hN hi hQ hw⟩
theorem dFnLawCS {i m : Nat} {wl : WS} (Fn : FunC K x qual st f fd cc) (S : FnScope N [ps0] (defScope st)) (hN : N.length = m) (hi : 0 < i ∧ i < m)
    (hw : wl ⟨fun _ _ => False, fun d _ => d = .bl true, fun _ _ => False, fun _ _ => False⟩ (((List.replicate m .no).set 0 .scr).set i .gau) 0)
    (hb : ∀ (A : Around) (outer : List Env) (s : Shared) (H : Hp) (E : XK), Room k (A.deeper (envOfC qual (defScope st) s.heap.objs.size f (.ref cc))) → (A.deeper (envOfC qual (defScope st) s.heap.objs.size f (.ref cc))).guards = some [] →
      PSs (cxOf CX0 P w K mg base N qual (defScope st) f (.ref cc) A outer s H E).nox (defBody st) (tSeq (tAsg (tCall (spMk K) [] E0 (tCons (tVar 0) tNil)) (gName i)) (exS K TB wl))) :
    FnG P w K mg base CX0 (k + 1) f fd [ps0] (spLaw K TB) := by
  obtain ⟨oc, od, kV, doc, pm, an, ct, osl, rfl, lk, hcd⟩ := Fn.ex
  refine fnG_of lk hcd S (fun vs H Q E ⟨a, ns, e, _⟩ => by rw [e]; rfl) fun A outer s H vs Q E hr hgd h => ?_
  obtain ⟨a, ns, rfl, hS, hl, hT, hQ⟩ := h
  exact ⟨_, (hb A outer s H E hr hgd).nox, law_readS hS hl hT hN hi hQ hw⟩
end
end L2.DL

set_option Elab.async false
set_option linter.all false
set_option autoImplicit false
set_option maxRecDepth 100000
set_option maxHeartbeats 4000000
/-! The round by homes: what comes next, what came before, for any lot of words that can be pulled. -/
namespace L2.DL
open PySem PySem.Spec
def pull3 (x : List Bool) : List Bool := true :: false :: true :: x.drop 3
def unpull3 (x : List Bool) : List Bool := true :: true :: false :: x.drop 3
def isP (x : List Bool) : Bool := x.take 3 == [true, true, false]
def isQ (x : List Bool) : Bool := x.take 3 == [true, false, true]
theorem isP_of {x : List Bool} (h : isP x = true) : ∃ r, x = true :: true :: false :: r := by
  have e : x.take 3 = [true, true, false] := by simpa [isP] using h
  exact ⟨x.drop 3, by rw [← List.take_append_drop 3 x, e]; simp⟩
theorem isQ_of {x : List Bool} (h : isQ x = true) : ∃ r, x = true :: false :: true :: r := by
  have e : x.take 3 = [true, false, true] := by simpa [isQ] using h
  exact ⟨x.drop 3, by rw [← List.take_append_drop 3 x, e]; simp⟩
theorem unpull_pull {x : List Bool} (h : isP x = true) : unpull3 (pull3 x) = x := by
  obtain ⟨r, rfl⟩ := isP_of h
  rfl
theorem pull_unpull {x : List Bool} (h : isQ x = true) : pull3 (unpull3 x) = x := by
  obtain ⟨r, rfl⟩ := isQ_of h
  rfl
theorem isP_unpull (x : List Bool) : isP (unpull3 x) = true := rfl
theorem isQ_pull (x : List Bool) : isQ (pull3 x) = true := rfl
theorem isP_pull (x : List Bool) : isP (pull3 x) = false := rfl
theorem isQ_P {x : List Bool} (h : isP x = true) : isQ x = false := by
  obtain ⟨r, rfl⟩ := isP_of h
  rfl
theorem isP_Q {x : List Bool} (h : isQ x = true) : isP x = false := by
  obtain ⟨r, rfl⟩ := isQ_of h
  rfl
theorem dy_pull {x : List Bool} (h : isP x = true) (hd : dy 0 x = true) : dy 0 (pull3 x) = true := by
  obtain ⟨r, rfl⟩ := isP_of h
  exact hd
theorem dy_unpull {x : List Bool} (h : isQ x = true) (hd : dy 0 x = true) : dy 0 (unpull3 x) = true := by
  obtain ⟨r, rfl⟩ := isQ_of h
  exact hd
theorem len_pull {x : List Bool} (h : isP x = true) : (pull3 x).length = x.length := by
  obtain ⟨r, rfl⟩ := isP_of h
  rfl
theorem len_unpull {x : List Bool} (h : isQ x = true) : (unpull3 x).length = x.length := by
  obtain ⟨r, rfl⟩ := isQ_of h
  rfl
/-- a lot of words that can be pulled -/
abbrev Lot := List Bool → Bool
def LotOk (σ : Lot) : Prop := ∀ x, σ x = true → isP x = true
/-- the word with a sewn ring that is this word if it is pulled -/
def underH (σ : Lot) (w : List Bool) : Option (List Bool) := if isQ w && σ (unpull3 w) then some (unpull3 w) else none
def swapH (σ : Lot) (w : List Bool) : List Bool := if σ w then pull3 w else (underH σ w).getD w
def stretchH (σ : Lot) (w : List Bool) (k : Int) (b : Bool) : Option (List Bool) :=
  if 1 ≤ k ∧ k ≤ 3 ∧ (k ≠ 3 ∨ b = true) ∧ σ (turnZ w (-k)) = true then some (turnZ w (-k)) else none
abbrev HM := List Bool × Int × Bool
def nextH (σ : Lot) (w : List Bool) (k : Int) (b : Bool) : HM :=
  match stretchH σ w k b with
  | some f => if b then (if k = 1 then (turnZ f 3, 3, false) else (turnZ w (-1), k - 1, false)) else (w, k, true)
  | none => if k = 0 ∧ b = false then (match underH σ w with | some u => (turnZ u 3, 3, true) | none => (turnZ (if σ w then pull3 w else w) 1, 1, true))
    else if b then (w, k, false) else (turnZ w 1, (k + 1) % ((w.length + 1 : Nat) : Int), true)
def beforeH (σ : Lot) (w : List Bool) (k : Int) (b : Bool) : HM :=
  if 1 ≤ k ∧ k ≤ 3 ∧ σ (turnZ w (-k)) = true then
    (if k = 3 then (if b then (pull3 (turnZ w (-k)), 0, false) else (turnZ (turnZ w (-k)) 1, 1, true)) else if b then (w, k, false) else (turnZ w 1, k + 1, true))
  else if b then (match if k = 1 then underH σ (turnZ w (-1)) else none with | some u => (u, 0, false) | none => (turnZ w (-1), (k - 1) % ((w.length + 1 : Nat) : Int), false))
  else (w, k, true)
/-- a home -/
structure HOK (w : List Bool) (k : Int) : Prop where
  d : dy 0 w = true
  n : w ≠ []
  lo : 0 ≤ k
  hi : k ≤ (w.length : Nat)
def optD : Option (List Bool) → D | none => .non | some v => .str (S v)
/-- u of a word 1 1 0 u 0 v -/
def under (y : List Bool) : List Bool := (fpair y).1.drop 2
def rightB (y : List Bool) : Bool := (y.take 3 == [true, true, false]) && decide (((under y).length : Int) ≤ (y.length : Nat) / 2 - 3)
def rightsW (w : List Bool) : List (List Bool) := (turns w).filter rightB
def chosenW (w : List Bool) : Option (List Bool) := if (rightsW w).isEmpty then none else some (leastW (rightsW w))
/-- the chosen words -/
def chB (x : List Bool) : Bool := rightB x && (chosenW x == some x)
theorem right_P {x : List Bool} (h : rightB x = true) : isP x = true := by
  unfold rightB at h
  rw [Bool.and_eq_true] at h
  exact h.1
theorem right_len {x : List Bool} (h : rightB x = true) : 6 ≤ x.length := by
  unfold rightB at h
  rw [Bool.and_eq_true, decide_eq_true_eq] at h
  omega
theorem ch_ok : LotOk chB := fun x h => by
  unfold chB at h
  rw [Bool.and_eq_true] at h
  exact right_P h.1
theorem ch_len {x : List Bool} (h : chB x = true) : 6 ≤ x.length := by
  unfold chB at h
  rw [Bool.and_eq_true] at h
  exact right_len h.1
section
variable {σ : Lot}
theorem under_some {w u : List Bool} (h : underH σ w = some u) : isQ w = true ∧ σ u = true ∧ u = unpull3 w := by
  unfold underH at h
  split at h
  · rename_i q
    rw [Bool.and_eq_true] at q
    cases h
    exact ⟨q.1, q.2, rfl⟩
  · cases h
theorem under_pull (hσ : LotOk σ) {w : List Bool} (h : σ w = true) : underH σ (pull3 w) = some w := by
  unfold underH
  rw [isQ_pull, unpull_pull (hσ _ h), h]
  rfl
theorem not_pull (hσ : LotOk σ) (x : List Bool) : σ (pull3 x) = false := by
  cases q : σ (pull3 x) with
  | false => rfl
  | true => exact absurd (hσ _ q) (by rw [isP_pull]; decide)
theorem under_P {w : List Bool} (h : isP w = true) : underH σ w = none := by
  unfold underH
  rw [isQ_P h]
  rfl
theorem stretch_some {w f : List Bool} {k : Int} {b : Bool} (h : stretchH σ w k b = some f) : 1 ≤ k ∧ k ≤ 3 ∧ (k ≠ 3 ∨ b = true) ∧ σ f = true ∧ f = turnZ w (-k) := by
  unfold stretchH at h
  split at h
  · rename_i q
    cases h
    exact ⟨q.1, q.2.1, q.2.2.1, q.2.2.2, rfl⟩
  · cases h
theorem stretch_none {w : List Bool} {k : Int} {b : Bool} (h : stretchH σ w k b = none) : ¬ (1 ≤ k ∧ k ≤ 3 ∧ (k ≠ 3 ∨ b = true) ∧ σ (turnZ w (-k)) = true) := by
  unfold stretchH at h
  split at h
  · cases h
  · assumption
theorem tz_len {w : List Bool} {k : Int} (h : HOK w k) (t : Int) : (turnZ w t).length = w.length := (turnZ_dy h.d h.n t).2.2
theorem HOK.len2 {w : List Bool} {k : Int} (h : HOK w k) : 2 ≤ w.length := by
  obtain ⟨u, v, _, _, e, _⟩ := dy_split h.d h.n
  rw [e]
  simp
  omega
theorem lot_len {x : List Bool} (h : isP x = true) (hd : dy 0 x = true) : 4 ≤ x.length := by
  obtain ⟨r, rfl⟩ := isP_of h
  cases r with
  | nil => cases hd
  | cons a r => simp
theorem HOK.tz {w : List Bool} {k j : Int} (h : HOK w k) (t : Int) (h0 : 0 ≤ j) (h1 : j ≤ (w.length : Nat)) : HOK (turnZ w t) j := by
  obtain ⟨a, b, c⟩ := turnZ_dy h.d h.n t
  exact ⟨a, b, h0, by rw [c]; exact h1⟩
theorem next_ok (hσ : LotOk σ) {w : List Bool} {k : Int} {b : Bool} (h : HOK w k) : HOK (nextH σ w k b).1 (nextH σ w k b).2.1 ∧ (nextH σ w k b).1.length = w.length := by
  unfold nextH
  have l2 := h.len2
  cases hs : stretchH σ w k b with
  | some f =>
    obtain ⟨k1, k3, kb, hf, rfl⟩ := stretch_some hs
    have hF := h.tz (-k) (j := k) h.lo h.hi
    have l4 := lot_len (hσ _ hf) hF.d
    rw [tz_len h] at l4
    cases b with
    | false => exact ⟨h, rfl⟩
    | true =>
      by_cases q : k = 1
      · subst q
        have e1 := tz_len hF 3
        have e2 := tz_len h (-1)
        obtain ⟨t1, t2, _⟩ := turnZ_dy hF.d hF.n 3
        have g : HOK (turnZ (turnZ w (-1)) 3) 3 := ⟨t1, t2, by decide, by omega⟩
        exact ⟨g, by show (turnZ (turnZ w (-1)) 3).length = _; omega⟩
      · simp only [if_true, if_neg q]
        exact ⟨h.tz (-1) (by omega) (by have := h.hi; omega), tz_len h _⟩
  | none =>
    by_cases q : k = 0 ∧ b = false
    · simp only [if_pos q]
      cases hu : underH σ w with
      | some u =>
        obtain ⟨hn, hs2, rfl⟩ := under_some hu
        have hF : HOK (unpull3 w) 0 := ⟨dy_unpull hn h.d, (by simp [unpull3]), by decide, by omega⟩
        have l4 := lot_len (hσ _ hs2) hF.d
        have e := len_unpull hn
        have e2 := tz_len hF 3
        exact ⟨HOK.tz hF (j := 3) 3 (by decide) (by omega), by show (turnZ (unpull3 w) 3).length = _; omega⟩
      | none =>
        cases hw : σ w with
        | false =>
          exact ⟨HOK.tz h (j := 1) 1 (by decide) (by omega), tz_len h _⟩
        | true =>
          have hp := hσ _ hw
          have hF : HOK (pull3 w) 0 := ⟨dy_pull hp h.d, (by simp [pull3]), by decide, by omega⟩
          have e := len_pull hp
          have e2 := tz_len hF 1
          exact ⟨HOK.tz hF (j := 1) 1 (by decide) (by omega), by show (turnZ (pull3 w) 1).length = _; omega⟩
    · simp only [if_neg q]
      cases b with
      | true => exact ⟨h, rfl⟩
      | false =>
        have a0 := Int.emod_nonneg (k + 1) (show ((w.length + 1 : Nat) : Int) ≠ 0 by omega)
        have a1 := Int.emod_lt_of_pos (k + 1) (show (0 : Int) < ((w.length + 1 : Nat) : Int) by omega)
        have g : HOK (turnZ w 1) ((k + 1) % ((w.length + 1 : Nat) : Int)) := h.tz 1 a0 (by omega)
        exact ⟨g, tz_len h _⟩
theorem tz_tz {w : List Bool} {k : Int} (h : HOK w k) (a b c : Int) (e : a + b = c) : turnZ (turnZ w a) b = turnZ w c := by
  rw [turnZ_add h.d h.n, e]
theorem tz_back {w : List Bool} {k : Int} (h : HOK w k) (a b : Int) (e : a + b = 0) : turnZ (turnZ w a) b = w := by
  rw [turnZ_add h.d h.n, e, turnZ_0]
theorem before_next (hσ : LotOk σ) {w : List Bool} {k : Int} {b : Bool} (h : HOK w k) : beforeH σ (nextH σ w k b).1 (nextH σ w k b).2.1 (nextH σ w k b).2.2 = (w, k, b) := by
  have l2 := h.len2
  have hlo := h.lo
  have hhi := h.hi
  unfold nextH
  cases hs : stretchH σ w k b with
  | some f =>
    obtain ⟨k1, k3, kb, hf, rfl⟩ := stretch_some hs
    cases b with
    | false =>
      have k3' : k ≠ 3 := by rcases kb with q | q; exact q; cases q
      show beforeH σ w k true = _
      unfold beforeH
      rw [if_pos ⟨k1, k3, hf⟩, if_neg k3', if_pos rfl]
    | true =>
      have hF := h.tz (-k) (j := k) h.lo h.hi
      by_cases q : k = 1
      · subst q
        show beforeH σ (turnZ (turnZ w (-1)) 3) 3 false = _
        have e3 : turnZ (turnZ (turnZ w (-1)) 3) (-3) = turnZ w (-1) := tz_back hF 3 (-3) rfl
        unfold beforeH
        rw [e3, if_pos ⟨by decide, by decide, hf⟩, if_pos rfl, tz_back h (-1) 1 rfl]
        rfl
      · simp only [if_true, if_neg q]
        have e3 : turnZ (turnZ w (-1)) (-(k - 1)) = turnZ w (-k) := tz_tz h _ _ _ (by omega)
        unfold beforeH
        rw [e3, if_pos ⟨by omega, by omega, hf⟩, if_neg (by omega), tz_back h (-1) 1 rfl, Int.sub_add_cancel]
        rfl
  | none =>
    have hs' := stretch_none hs
    by_cases q : k = 0 ∧ b = false
    · obtain ⟨rfl, rfl⟩ := q
      simp only [and_self, if_true]
      cases hu : underH σ w with
      | some u =>
        obtain ⟨hn, hs2, rfl⟩ := under_some hu
        have hF : HOK (unpull3 w) 0 := ⟨dy_unpull hn h.d, (by simp [unpull3]), by decide, by omega⟩
        have e3 : turnZ (turnZ (unpull3 w) 3) (-3) = unpull3 w := tz_back hF 3 (-3) rfl
        unfold beforeH
        simp only []
        rw [e3, if_pos ⟨by decide, by decide, hs2⟩]
        simp only [if_true]
        rw [pull_unpull hn]
      | none =>
        have gen : ∀ v, HOK v 0 → σ v = false → beforeH σ (turnZ v 1) 1 true = (match underH σ v with | some u => (u, 0, false) | none => (v, 0, false)) := fun v hv hvσ => by
          unfold beforeH
          have e3 : turnZ (turnZ v 1) (-1) = v := tz_back hv 1 (-1) rfl
          rw [e3, if_neg (by rw [hvσ]; simp), if_pos rfl, if_pos rfl]
          cases underH σ v <;> simp
        cases hw : σ w with
        | false =>
          show beforeH σ (turnZ w 1) 1 true = _
          rw [gen w h hw, hu]
        | true =>
          have hp := hσ _ hw
          have hF : HOK (pull3 w) 0 := ⟨dy_pull hp h.d, (by simp [pull3]), by decide, by omega⟩
          show beforeH σ (turnZ (pull3 w) 1) 1 true = _
          rw [gen _ hF (not_pull hσ w), under_pull hσ hw]
    · simp only [if_neg q]
      cases b with
      | true =>
        simp only [if_true]
        unfold beforeH
        rw [if_neg (fun z => hs' ⟨z.1, z.2.1, .inr rfl, z.2.2⟩)]
        rfl
      | false =>
        have k0 : k ≠ 0 := fun z => q ⟨z, rfl⟩
        simp only [Bool.false_eq_true, if_false]
        have e1 : turnZ (turnZ w 1) (-1) = w := tz_back h 1 (-1) rfl
        by_cases hk : k < (w.length : Nat)
        · have em : (k + 1) % ((w.length + 1 : Nat) : Int) = k + 1 := Int.emod_eq_of_lt (by omega) (by omega)
          rw [em]
          have e3 : turnZ (turnZ w 1) (-(k + 1)) = turnZ w (-k) := tz_tz h _ _ _ (by omega)
          unfold beforeH
          rw [e3, if_neg (fun z => hs' ⟨by omega, by omega, .inl (by omega), z.2.2⟩), if_pos rfl, if_neg (by omega), e1, tz_len h, Int.add_sub_cancel, Int.emod_eq_of_lt (by omega) (by omega)]
        · have hk2 : k = (w.length : Nat) := by omega
          have em : (k + 1) % ((w.length + 1 : Nat) : Int) = 0 := by
            rw [hk2, show ((w.length : Nat) : Int) + 1 = ((w.length + 1 : Nat) : Int) by omega, Int.emod_self]
          rw [em]
          unfold beforeH
          rw [if_neg (fun z => by omega), if_pos rfl, if_neg (by decide), e1, tz_len h]
          have : (0 - 1 : Int) % ((w.length + 1 : Nat) : Int) = k := by
            rw [← Int.add_mul_emod_self_left (0 - 1) ((w.length + 1 : Nat) : Int) 1, Int.emod_eq_of_lt (by omega) (by omega)]
            omega
          simp only [this]
theorem before_ok (hσ : LotOk σ) {w : List Bool} {k : Int} {b : Bool} (h : HOK w k) : HOK (beforeH σ w k b).1 (beforeH σ w k b).2.1 ∧ (beforeH σ w k b).1.length = w.length := by
  unfold beforeH
  have l2 := h.len2
  have hhi := h.hi
  have hlo := h.lo
  by_cases q : 1 ≤ k ∧ k ≤ 3 ∧ σ (turnZ w (-k)) = true
  · rw [if_pos q]
    have hF := h.tz (-k) (j := k) h.lo h.hi
    have l4 := lot_len (hσ _ q.2.2) hF.d
    have eF := tz_len h (-k)
    by_cases q3 : k = 3
    · rw [if_pos q3]
      cases b with
      | true =>
        have hp := hσ _ q.2.2
        have g : HOK (pull3 (turnZ w (-k))) 0 := ⟨dy_pull hp hF.d, (by simp [pull3]), by decide, by omega⟩
        exact ⟨g, by show (pull3 (turnZ w (-k))).length = _; rw [len_pull hp, eF]⟩
      | false =>
        have e2 := tz_len hF 1
        have g : HOK (turnZ (turnZ w (-k)) 1) 1 := hF.tz 1 (by decide) (by omega)
        exact ⟨g, by show (turnZ (turnZ w (-k)) 1).length = _; omega⟩
    · rw [if_neg q3]
      cases b with
      | true => exact ⟨h, rfl⟩
      | false =>
        have g : HOK (turnZ w 1) (k + 1) := h.tz 1 (by omega) (by omega)
        exact ⟨g, tz_len h _⟩
  · rw [if_neg q]
    cases b with
    | false => exact ⟨h, rfl⟩
    | true =>
      rw [if_pos rfl]
      have a0 := Int.emod_nonneg (k - 1) (show ((w.length + 1 : Nat) : Int) ≠ 0 by omega)
      have a1 := Int.emod_lt_of_pos (k - 1) (show (0 : Int) < ((w.length + 1 : Nat) : Int) by omega)
      have gen : HOK (turnZ w (-1)) ((k - 1) % ((w.length + 1 : Nat) : Int)) ∧ (turnZ w (-1)).length = w.length := ⟨h.tz (-1) a0 (by omega), tz_len h _⟩
      by_cases q1 : k = 1
      · rw [if_pos q1]
        cases hu : underH σ (turnZ w (-1)) with
        | none => exact gen
        | some u =>
          obtain ⟨hn, hs2, rfl⟩ := under_some hu
          have e := len_unpull hn
          have e2 := tz_len h (-1)
          have g : HOK (unpull3 (turnZ w (-1))) 0 := ⟨dy_unpull hn gen.1.d, (by simp [unpull3]), by decide, by omega⟩
          exact ⟨g, by show (unpull3 (turnZ w (-1))).length = _; omega⟩
      · rw [if_neg q1]
        exact gen
theorem next_before (hσ : LotOk σ) {w : List Bool} {k : Int} {b : Bool} (h : HOK w k) : nextH σ (beforeH σ w k b).1 (beforeH σ w k b).2.1 (beforeH σ w k b).2.2 = (w, k, b) := by
  have l2 := h.len2
  have hlo := h.lo
  have hhi := h.hi
  have e1 : turnZ (turnZ w (-1)) 1 = w := tz_back h (-1) 1 rfl
  unfold beforeH
  by_cases q : 1 ≤ k ∧ k ≤ 3 ∧ σ (turnZ w (-k)) = true
  · rw [if_pos q]
    have hF := h.tz (-k) (j := k) h.lo h.hi
    have l4 := lot_len (hσ _ q.2.2) hF.d
    have eF := tz_len h (-k)
    have hp := hσ _ q.2.2
    by_cases q3 : k = 3
    · subst q3
      rw [if_pos rfl]
      cases b with
      | true =>
        show nextH σ (pull3 (turnZ w (-3))) 0 false = _
        have es : stretchH σ (pull3 (turnZ w (-3))) 0 false = none := by
          unfold stretchH
          rw [if_neg (fun z => by omega)]
        unfold nextH
        rw [es]
        simp only [and_self, if_true]
        rw [under_pull hσ q.2.2]
        simp only []
        rw [tz_back h (-3) 3 rfl]
      | false =>
        show nextH σ (turnZ (turnZ w (-3)) 1) 1 true = _
        have e3 : turnZ (turnZ (turnZ w (-3)) 1) (-1) = turnZ w (-3) := tz_back hF 1 (-1) rfl
        have es : stretchH σ (turnZ (turnZ w (-3)) 1) 1 true = some (turnZ w (-3)) := by
          unfold stretchH
          rw [e3, if_pos ⟨by decide, by decide, .inr rfl, q.2.2⟩]
        unfold nextH
        rw [es]
        simp only [if_true]
        rw [tz_back h (-3) 3 rfl]
    · rw [if_neg q3]
      cases b with
      | true =>
        show nextH σ w k false = _
        have es : stretchH σ w k false = some (turnZ w (-k)) := by
          unfold stretchH
          rw [if_pos ⟨q.1, q.2.1, .inl q3, q.2.2⟩]
        unfold nextH
        rw [es]
        rfl
      | false =>
        show nextH σ (turnZ w 1) (k + 1) true = _
        have e3 : turnZ (turnZ w 1) (-(k + 1)) = turnZ w (-k) := tz_tz h _ _ _ (by omega)
        have es : stretchH σ (turnZ w 1) (k + 1) true = some (turnZ w (-k)) := by
          unfold stretchH
          rw [e3, if_pos ⟨by omega, by omega, .inr rfl, q.2.2⟩]
        unfold nextH
        rw [es]
        simp only [if_true]
        rw [if_neg (by omega), tz_back h 1 (-1) rfl, Int.add_sub_cancel]
  · rw [if_neg q]
    cases b with
    | false =>
      show nextH σ w k true = _
      have es : stretchH σ w k true = none := by
        unfold stretchH
        rw [if_neg (fun z => q ⟨z.1, z.2.1, z.2.2.2⟩)]
      unfold nextH
      rw [es]
      simp
    | true =>
      simp only [if_true]
      have gen : (k = 1 → underH σ (turnZ w (-1)) = none) → nextH σ (turnZ w (-1)) ((k - 1) % ((w.length + 1 : Nat) : Int)) false = (w, k, true) := fun hu => by
        by_cases q0 : k = 0
        · have em : (k - 1) % ((w.length + 1 : Nat) : Int) = (w.length : Nat) := by
            rw [q0, ← Int.add_mul_emod_self_left (0 - 1) ((w.length + 1 : Nat) : Int) 1, Int.emod_eq_of_lt (by omega) (by omega)]
            omega
          rw [em]
          have es : stretchH σ (turnZ w (-1)) ((w.length : Nat) : Int) false = none := by
            unfold stretchH
            rw [if_neg]
            intro z
            have l3 : w.length = 2 := by
              obtain ⟨e, _⟩ := dy_even h.d
              omega
            have hz := lot_len (hσ _ z.2.2.2) (HOK.tz (h.tz (-1) (j := 0) (by decide) (by omega)) (-((w.length : Nat) : Int)) (j := 0) (by decide) (by omega)).d
            have e2 := tz_len (h.tz (-1) (j := 0) (by decide) (by omega)) (-((w.length : Nat) : Int))
            have e3 := tz_len h (-1)
            omega
          unfold nextH
          rw [es]
          simp only []
          rw [if_neg (fun z => by omega), if_neg (by decide), e1, tz_len h, show ((w.length : Nat) : Int) + 1 = ((w.length + 1 : Nat) : Int) by omega, Int.emod_self, q0]
        · have em : (k - 1) % ((w.length + 1 : Nat) : Int) = k - 1 := Int.emod_eq_of_lt (by omega) (by omega)
          rw [em]
          have e3 : turnZ (turnZ w (-1)) (-(k - 1)) = turnZ w (-k) := tz_tz h _ _ _ (by omega)
          have es : stretchH σ (turnZ w (-1)) (k - 1) false = none := by
            unfold stretchH
            rw [e3, if_neg]
            intro z
            have : k ≤ 3 := by rcases z.2.2.1 with y | y; omega; cases y
            exact q ⟨by omega, this, z.2.2.2⟩
          unfold nextH
          rw [es]
          simp only []
          by_cases q1 : k = 1
          · subst q1
            have hσw : σ (turnZ w (-1)) = false := by
              cases z : σ (turnZ w (-1)) with
              | false => rfl
              | true => exact absurd ⟨by decide, by decide, z⟩ q
            rw [if_pos (by simp), hu rfl, hσw]
            simp only [Bool.false_eq_true, if_false]
            rw [e1]
          · rw [if_neg (fun z => by omega), if_neg (by decide), e1, tz_len h, Int.sub_add_cancel, Int.emod_eq_of_lt (by omega) (by omega)]
      by_cases q1 : k = 1
      · subst q1
        rw [if_pos rfl]
        cases hu : underH σ (turnZ w (-1)) with
        | none => exact gen fun _ => hu
        | some u =>
          obtain ⟨hn, hs2, rfl⟩ := under_some hu
          show nextH σ (unpull3 (turnZ w (-1))) 0 false = _
          have es : stretchH σ (unpull3 (turnZ w (-1))) 0 false = none := by
            unfold stretchH
            rw [if_neg (fun z => by omega)]
          unfold nextH
          rw [es]
          simp only [and_self, if_true]
          rw [under_P (isP_unpull _), hs2]
          simp only [if_true]
          rw [pull_unpull hn, e1]
      · rw [if_neg q1]
        exact gen fun z => absurd z q1
end
end L2.DL

set_option Elab.async false
set_option linter.all false
set_option autoImplicit false
set_option maxRecDepth 100000
set_option maxHeartbeats 4000000
/-! The ring of six states by homes; the two states beside a state; posts. -/
namespace L2.DL
open PySem PySem.Spec
def stH (h : HM) : List Bool := st h.1 h.2.1 h.2.2
theorem st_1 (w : List Bool) (b : Bool) : st w 1 b = b :: w := rot_split (x := w) (y := [b]) (by simp)
theorem st_0 (w : List Bool) (b : Bool) : st w 0 b = w ++ [b] := rot_0 _
theorem st_3 (w : List Bool) (a c b : Bool) : st (w ++ [a, c]) 3 b = a :: c :: b :: w := by
  have := rot_split (x := w) (y := [a, c, b]) (by simp)
  unfold st
  rw [show w ++ [a, c] ++ [b] = w ++ [a, c, b] by simp]
  exact this
def ring6 (x : List Bool) : List (List Bool) := [st x 0 false, st (turnZ (pull3 x) 1) 1 true, st (pull3 x) 0 false, st (turnZ x 3) 3 true, st (turnZ x 3) 3 false, st (turnZ x 1) 1 true]
section
variable {u v : List Bool}
theorem turn_x (hu : dy 0 u = true) (hv : dy 0 v = true) : dy 0 (true :: true :: false :: u ++ false :: v) = true ∧ turnZ (true :: true :: false :: u ++ false :: v) 1 = true :: false :: u ++ true :: v ++ [false] ∧ turnZ (true :: true :: false :: u ++ false :: v) 3 = u ++ true :: v ++ [false, true, false] := by
  have hd : dy 0 (true :: true :: false :: u ++ false :: v) = true := by
    show dy 1 (u ++ false :: v) = true
    have := dy_app u (false :: v) 0 1 hu
    rw [Nat.zero_add] at this
    rw [this]
    exact hv
  have h10 : dy 0 (true :: false :: u) = true := hu
  have e1 : turn (true :: true :: false :: u ++ false :: v) = true :: false :: u ++ true :: v ++ [false] := turn_of (u := true :: false :: u) h10
  have hw : dy 0 (u ++ true :: v ++ [false]) = true := by
    rw [List.append_assoc, dy_cat hu]
    have := dy_wrap (u := v) (v := []) hv
    exact this
  have e2 : turn (true :: false :: u ++ true :: v ++ [false]) = true :: (u ++ true :: v ++ [false]) ++ [false] := by
    have := turn_of (u := []) (v := u ++ true :: v ++ [false]) rfl
    simpa using this
  have e3 : turn (true :: (u ++ true :: v ++ [false]) ++ [false]) = u ++ true :: v ++ [false, true, false] := by
    have := turn_of (u := u ++ true :: v ++ [false]) (v := []) hw
    simpa using this
  refine ⟨hd, ?_, ?_⟩
  · rw [turnZ_1 hd (by simp), e1]
  · rw [show (3 : Int) = ((3 : Nat) : Int) from rfl, turnZ_nat hd (by simp)]
    show turn (turn (turn _)) = _
    rw [e1, e2, e3]
theorem turn_y (hu : dy 0 u = true) (hv : dy 0 v = true) : turnZ (true :: false :: true :: u ++ false :: v) 1 = true :: true :: u ++ false :: v ++ [false] := by
  have hd : dy 0 (true :: false :: true :: u ++ false :: v) = true := (turn_x hu hv).1
  rw [turnZ_1 hd (by simp)]
  have := turn_of (u := []) (v := true :: u ++ false :: v) rfl
  simpa using this
theorem ring6_of (hu : dy 0 u = true) (hv : dy 0 v = true) : ring6 (true :: true :: false :: u ++ false :: v) =
    [true :: true :: false :: u ++ false :: v ++ [false], true :: true :: true :: u ++ false :: v ++ [false], true :: false :: true :: u ++ false :: v ++ [false],
     true :: false :: true :: u ++ true :: v ++ [false], true :: false :: false :: u ++ true :: v ++ [false], true :: true :: false :: u ++ true :: v ++ [false]] := by
  obtain ⟨e0, e1, e2⟩ := turn_x hu hv
  have e3 := turn_y hu hv
  have ep : pull3 (true :: true :: false :: u ++ false :: v) = true :: false :: true :: u ++ false :: v := rfl
  have e4 : u ++ true :: v ++ [false, true, false] = (u ++ true :: v ++ [false]) ++ [true, false] := by simp
  unfold ring6
  rw [ep, e1, e2, e3, st_0, st_0, st_1, st_1, e4, st_3, st_3]
  simp
end
theorem P_split {x : List Bool} (h : isP x = true) (hd : dy 0 x = true) : ∃ u v, dy 0 u = true ∧ dy 0 v = true ∧ x = true :: true :: false :: u ++ false :: v ∧ under x = u := by
  obtain ⟨r, rfl⟩ := isP_of h
  obtain ⟨c1, c2, c3⟩ := cut_spec r 0 hd
  refine ⟨(cut 0 r).1, (cut 0 r).2, c2, c3, ?_, rfl⟩
  simp only [List.cons_append]
  rw [← c1]
theorem chB_self {x : List Bool} (hp : isP x = true) (h : chosenW x = some x) : chB x = true := by
  unfold chB
  rw [h]
  have : x ∈ rightsW x := by
    unfold chosenW at h
    split at h
    · cases h
    · rename_i q
      have e := Option.some.inj h
      have := (leastW_spec (ls := rightsW x) (by simpa using q)).1
      rw [e] at this
      exact this
  unfold rightsW at this
  rw [(List.mem_filter.mp this).2]
  simp
theorem ch_chosen {x : List Bool} (h : chB x = true) : chosenW x = some x := by
  unfold chB at h
  rw [Bool.and_eq_true, beq_iff_eq] at h
  exact h.2
/-! ### beside a state -/
def lastS (w : List Bool) (k : Int) (b : Bool) : List Bool := st w k (!b)
def turnS (w : List Bool) (k : Int) (b : Bool) : List Bool := if b then st (turnZ w (-1)) (k - 1) false else st (turnZ w 1) (k + 1) true
def tiedS (σ : Lot) (w : List Bool) (k : Int) (b : Bool) : List Bool × List Bool :=
  if k = 0 ∧ b = false then (lastS w k b, if σ w then st (turnZ (pull3 w) 1) 1 true else match underH σ w with | some x => st (turnZ x 3) 3 true | none => turnS w k b)
  else if k = 1 ∧ b = true then (lastS w k b, if σ (turnZ w (-1)) then st (turnZ (turnZ w (-1)) 3) 3 false else match underH σ (turnZ w (-1)) with | some x => st x 0 false | none => turnS w k b)
  else if k = 3 ∧ σ (turnZ w (-3)) = true then (if b then st (pull3 (turnZ w (-3))) 0 false else st (turnZ (turnZ w (-3)) 1) 1 true, turnS w k b)
  else (lastS w k b, turnS w k b)
section
variable {σ : Lot}
theorem st_emod {w : List Bool} {t n : Int} {j : Int} {b : Bool} (h : dy 0 w = true) (hn : w ≠ []) (e : n = ((w.length + 1 : Nat) : Int)) : st (turnZ w t) (j % n) b = st (turnZ w t) j b := by
  rw [e]
  have := st_mod (turnZ w t) j b
  rw [(turnZ_dy h hn t).2.2] at this
  exact this
theorem tied_nb (hσ : LotOk σ) {w : List Bool} {k : Int} {b : Bool} (h : HOK w k) :
    tiedS σ w k b = (stH (nextH σ w k b), stH (beforeH σ w k b)) ∨ tiedS σ w k b = (stH (beforeH σ w k b), stH (nextH σ w k b)) := by
  have l2 := h.len2
  have hlo := h.lo
  have hhi := h.hi
  have ee : ∀ t j b', st (turnZ w t) (j % ((w.length + 1 : Nat) : Int)) b' = st (turnZ w t) j b' := fun t j b' => st_emod h.d h.n rfl
  unfold tiedS
  by_cases q : k = 0 ∧ b = false
  · obtain ⟨rfl, rfl⟩ := q
    right
    have es : stretchH σ w 0 false = none := by
      unfold stretchH
      rw [if_neg (fun z => by omega)]
    have eb : beforeH σ w 0 false = (w, 0, true) := by
      unfold beforeH
      rw [if_neg (fun z => by omega)]
      rfl
    unfold nextH
    rw [es, eb]
    simp only [and_self, if_true]
    unfold lastS
    refine Prod.ext rfl ?_
    cases hw : σ w with
    | true =>
      rw [under_P (hσ _ hw)]
      rfl
    | false =>
      cases underH σ w <;> rfl
  rw [if_neg q]
  by_cases q1 : k = 1 ∧ b = true
  · obtain ⟨rfl, rfl⟩ := q1
    rw [if_pos ⟨rfl, rfl⟩]
    cases hf : σ (turnZ w (-1)) with
    | true =>
      right
      have es : stretchH σ w 1 true = some (turnZ w (-1)) := by
        unfold stretchH
        rw [if_pos ⟨by decide, by decide, .inr rfl, hf⟩]
      have eb : beforeH σ w 1 true = (w, 1, false) := by
        unfold beforeH
        rw [if_pos ⟨by decide, by decide, hf⟩, if_neg (by decide)]
        rfl
      unfold nextH
      rw [es, eb]
      rfl
    | false =>
      left
      have es : stretchH σ w 1 true = none := by
        unfold stretchH
        rw [if_neg (fun z => by have := z.2.2.2; rw [hf] at this; cases this)]
      have en : nextH σ w 1 true = (w, 1, false) := by
        unfold nextH
        rw [es]
        rfl
      have eb : beforeH σ w 1 true = (match underH σ (turnZ w (-1)) with | some u => (u, 0, false) | none => (turnZ w (-1), (1 - 1) % ((w.length + 1 : Nat) : Int), false)) := by
        unfold beforeH
        rw [hf]
        simp
        try (cases underH σ (turnZ w (-1)) <;> rfl)
      rw [en, eb]
      refine Prod.ext rfl ?_
      simp only [Bool.false_eq_true, if_false]
      cases underH σ (turnZ w (-1)) with
      | some x => rfl
      | none =>
        show turnS w 1 true = st (turnZ w (-1)) ((1 - 1) % ((w.length + 1 : Nat) : Int)) false
        rw [ee]
        rfl
  rw [if_neg q1]
  by_cases q3 : k = 3 ∧ σ (turnZ w (-3)) = true
  · obtain ⟨rfl, hf⟩ := q3
    rw [if_pos ⟨rfl, hf⟩]
    have l4 : 4 ≤ w.length := by
      have := lot_len (hσ _ hf) (turnZ_dy h.d h.n (-3)).1
      rw [tz_len h] at this
      exact this
    cases b with
    | true =>
      right
      have es : stretchH σ w 3 true = some (turnZ w (-3)) := by
        unfold stretchH
        rw [if_pos ⟨by decide, by decide, .inr rfl, hf⟩]
      have eb : beforeH σ w 3 true = (pull3 (turnZ w (-3)), 0, false) := by
        unfold beforeH
        rw [if_pos ⟨by decide, by decide, hf⟩]
        rfl
      unfold nextH
      rw [es, eb]
      rfl
    | false =>
      right
      have es : stretchH σ w 3 false = none := by
        unfold stretchH
        rw [if_neg (fun z => by rcases z.2.2.1 with y | y; exact y rfl; cases y)]
      have eb : beforeH σ w 3 false = (turnZ (turnZ w (-3)) 1, 1, true) := by
        unfold beforeH
        rw [if_pos ⟨by decide, by decide, hf⟩]
        rfl
      have en : nextH σ w 3 false = (turnZ w 1, (3 + 1) % ((w.length + 1 : Nat) : Int), true) := by
        unfold nextH
        rw [es]
        simp
      rw [en, eb]
      refine Prod.ext rfl ?_
      show turnS w 3 false = st (turnZ w 1) ((3 + 1) % ((w.length + 1 : Nat) : Int)) true
      rw [ee]
      rfl
  rw [if_neg q3]
  cases b with
  | true =>
    cases hs : stretchH σ w k true with
    | some f =>
      right
      obtain ⟨k1, k3, kb, hf, rfl⟩ := stretch_some hs
      have kn1 : k ≠ 1 := fun z => q1 ⟨z, rfl⟩
      have kn3 : k ≠ 3 := fun z => q3 ⟨z, by rw [z] at hf; exact hf⟩
      have eb : beforeH σ w k true = (w, k, false) := by
        unfold beforeH
        rw [if_pos ⟨k1, k3, hf⟩, if_neg kn3]
        rfl
      unfold nextH
      rw [hs, eb]
      simp only [if_true, if_neg kn1]
      rfl
    | none =>
      left
      have hs' := stretch_none hs
      have kn1 : k ≠ 1 := fun z => q1 ⟨z, rfl⟩
      have en : nextH σ w k true = (w, k, false) := by
        unfold nextH
        rw [hs]
        simp
      rw [en]
      unfold beforeH
      rw [if_neg (fun z => hs' ⟨z.1, z.2.1, .inr rfl, z.2.2⟩)]
      simp only [if_true, if_neg kn1]
      refine Prod.ext rfl ?_
      show turnS w k true = st (turnZ w (-1)) ((k - 1) % ((w.length + 1 : Nat) : Int)) false
      rw [ee]
      rfl
  | false =>
    have k0 : k ≠ 0 := fun z => q ⟨z, rfl⟩
    cases hs : stretchH σ w k false with
    | some f =>
      left
      obtain ⟨k1, k3, kb, hf, rfl⟩ := stretch_some hs
      have kn3 : k ≠ 3 := by rcases kb with y | y; exact y; cases y
      have en : nextH σ w k false = (w, k, true) := by
        unfold nextH
        rw [hs]
        rfl
      rw [en]
      unfold beforeH
      rw [if_pos ⟨k1, k3, hf⟩, if_neg kn3]
      rfl
    | none =>
      right
      have hs' := stretch_none hs
      have eb : beforeH σ w k false = (w, k, true) := by
        unfold beforeH
        rw [if_neg]
        · rfl
        · intro z
          by_cases k3 : k = 3
          · exact q3 ⟨k3, by have := z.2.2; rw [k3] at this; exact this⟩
          · exact hs' ⟨z.1, z.2.1, .inl k3, z.2.2⟩
      rw [eb]
      unfold nextH
      rw [hs]
      simp only []
      rw [if_neg (fun z => k0 z.1)]
      refine Prod.ext rfl ?_
      show turnS w k false = st (turnZ w 1) ((k + 1) % ((w.length + 1 : Nat) : Int)) true
      rw [ee]
      rfl
end
/-! ### posts -/
def atH (σ : Lot) (w : List Bool) (o : Int) : HM :=
  if o = 0 then (w, 0, false)
  else match (if o < 6 then underH σ w else none) with
    | some u => (turnZ u ((6 + o % 2 - o) / 2), (6 + o % 2 - o) / 2, o % 2 == 1)
    | none => (turnZ (swapH σ w) ((o + o % 2) / 2), ((o + o % 2) / 2) % ((w.length + 1 : Nat) : Int), o % 2 == 1)
def postH (σ : Lot) (w : List Bool) (k : Int) (b : Bool) : List Bool × Int :=
  if k = 0 then (if b then (swapH σ (turnZ w (-1)), 2 * ((w.length + 1 : Nat) : Int) - 1) else (w, 0))
  else match stretchH σ w k b with
    | some f => (pull3 f, 6 + (if b then 1 else 0) - 2 * k)
    | none => (swapH σ (turnZ w (-k)), 2 * k - (if b then 1 else 0))
end L2.DL

set_option Elab.async false
set_option linter.all false
set_option autoImplicit false
set_option maxRecDepth 100000
set_option maxHeartbeats 4000000
/-! zip of two texts. -/
namespace L2.DL
open PySem PySem.Spec PyProof.Rows
/-- five objects, all unlike -/
structure Ap5 (gz ti to_ j1 j2 : Addr) : Prop where
  a1 : ti ≠ gz
  a2 : to_ ≠ gz
  a3 : j1 ≠ gz
  a4 : j2 ≠ gz
  b1 : ti ≠ to_
  b2 : ti ≠ j1
  b3 : ti ≠ j2
  c1 : to_ ≠ j1
  c2 : to_ ≠ j2
  d : j1 ≠ j2
section
variable {prog : Program} {w : World} {A : Around} {E : Value → Shared → Prop} {s : Shared}
theorem zs_item {it : Addr} {x : Str} {t : Tok} {i c : Nat} {Q : Value → Shared → Prop} (g : s.heap.IsStrIter it (strIterType x) x t i) (hc : x.cps[i]? = some c)
    (k : ∀ h', h'.IsStrIter it (strIterType x) x t (i + 1) → Heap.SameBut it s.heap h' → Q (.str ⟨#[c]⟩ s.toks) { s with heap := h', toks := s.toks + 1 }) : wpAny (model prog w) A (Builtin.SmallTypes.nextOf (.ref it)) Q E s := by
  unfold strIterType at g k
  split at g
  · rename_i q
    rw [if_pos q] at k
    exact wpAny_nextOf_ascii_item g hc k
  · rename_i q
    rw [if_neg q] at k
    exact wpAny_nextOf_wide_item g hc k
theorem zs_end {it : Addr} {x : Str} {t : Tok} {i : Nat} {Q : Value → Shared → Prop} (hh : A.handled = none) (g : s.heap.IsStrIter it (strIterType x) x t i) (hc : x.cps[i]? = none)
    (k : ∀ h' e, Heap.ExtBut it s.heap h' → (∃ o, h'.get? e = some o ∧ o.cls = .type "StopIteration") → E (.ref e) { s with heap := h' }) : wpAny (model prog w) A (Builtin.SmallTypes.nextOf (.ref it)) Q E s := by
  unfold strIterType at g
  split at g
  · exact wpAny_nextOf_ascii_end hh g hc k
  · exact wpAny_nextOf_wide_end hh g hc k
theorem strIt_mv {h h' : Heap} {it : Addr} {ty : String} {x : Str} {t : Tok} {i : Nat} (g : h.IsStrIter it ty x t i) (k : ∀ o, h.get? it = some o → h'.get? it = some o) : h'.IsStrIter it ty x t i := by
  obtain ⟨o, e, r⟩ := g
  exact ⟨o, k o e, r⟩
/-- the next pair -/
theorem zs_next {gz ti to_ j1 j2 : Addr} {n : Nat} {x y : Str} {t u : Tok} {c d : Nat} {a b : Value} {Q : Value → Shared → Prop} (D : Ap5 gz ti to_ j1 j2) (g0 : IsZip s.heap gz ti to_ .none) (g1 : IsPair s.heap ti (.ref j1) (.ref j2)) (g2 : IsPair s.heap to_ a b)
    (r1 : s.heap.IsStrIter j1 (strIterType x) x t n) (r2 : s.heap.IsStrIter j2 (strIterType y) y u n) (hc : x.cps[n]? = some c) (hd : y.cps[n]? = some d)
    (k : ∀ h', IsZip h' gz ti to_ (rawInt s.heap.objs.size) → IsPair h' to_ (.str ⟨#[c]⟩ s.toks) (.str ⟨#[d]⟩ (s.toks + 1)) → h'.IsStrIter j1 (strIterType x) x t (n + 1) → h'.IsStrIter j2 (strIterType y) y u (n + 1) →
      IsPair h' s.heap.objs.size (.str ⟨#[c]⟩ s.toks) (.str ⟨#[d]⟩ (s.toks + 1)) → h'.objs.size = s.heap.objs.size + 1 → (∀ m o, m ≠ gz → m ≠ to_ → m ≠ j1 → m ≠ j2 → s.heap.get? m = some o → h'.get? m = some o) →
      Q (.ref s.heap.objs.size) { s with heap := h', toks := s.toks + 1 + 1 }) :
    wpAny (model prog w) A (Builtin.«zip.__next__» ⟨[.ref gz], []⟩) (fun fin s' => ∃ v, fin = .done (.ret v) ∧ Q v s') E s := by
  show wpAny _ _ (field (.ref gz) 2 >>= _) _ _ _; refine wpAny_bind (wpAny_field g0 rfl (x := .bool false) rfl ?_)
  show wpAny _ _ (field (.ref gz) 3 >>= _) _ _ _; refine wpAny_bind (wpAny_field g0 rfl (x := .ref ti) rfl ?_)
  refine wpAny_bind (wpAny_seqItems g1 rfl ?_); show wpAny _ _ (Builtin.SmallTypes.ownedTupleIsFree (.ref gz) >>= _) _ _ _
  refine wpAny_bind ?_; unfold Builtin.SmallTypes.ownedTupleIsFree
  refine wpAny_bind (wpAny_field g0 rfl (x := .none) rfl (wpAny_pure ?_)); simp only [if_true]
  refine wpAny_bind (wpAny_rule ?_); refine wpAny_bind (wpAny_field g0 rfl (x := .ref to_) rfl ?_)
  refine wpAny_bind (wpAny_setField_rec g0 (by simp) fun k1 z1 q1 => ?_); replace z1 : IsZip k1 gz ti to_ .ellipsis := z1
  refine wpAny_bind ?_; simp only [List.zipIdx_cons, List.zipIdx_nil, List.forIn_cons, List.forIn_nil]
  refine wpAny_bind (wpAny_bind (wpAny_onRaise ?_)); show wpAny _ _ (Builtin.SmallTypes.nextOf (.ref j1) >>= _) _ _ _
  refine wpAny_bind (zs_item (s := { s with heap := k1 }) (strIt_mv r1 fun o e => q1.extBut _ _ D.a3 e) hc fun k2 i2 q2 => wpAny_pure ?_)
  have p2 : IsPair k2 to_ a b := q2.extBut _ _ D.c1 (q1.extBut _ _ D.a2 g2)
  refine wpAny_bind (wpAny_seqItems p2 rfl ?_); refine wpAny_bind (wpAny_updateSeq_pair p2 fun k3 p3 q3 => ?_)
  replace p3 : IsPair k3 to_ (.str ⟨#[c]⟩ s.toks) b := p3
  refine wpAny_bind (wpAny_letGo (wpAny_pure ?_)); refine wpAny_bind (wpAny_bind (wpAny_onRaise ?_))
  show wpAny _ _ (Builtin.SmallTypes.nextOf (.ref j2) >>= _) _ _ _
  refine wpAny_bind (zs_item (s := { s with heap := k3, toks := s.toks + 1 }) (strIt_mv r2 fun o e => q3.extBut _ _ D.c2.symm (q2.extBut _ _ D.d.symm (q1.extBut _ _ D.a4 e))) hd fun k4 i4 q4 => wpAny_pure ?_)
  have p4 : IsPair k4 to_ (.str ⟨#[c]⟩ s.toks) b := q4.extBut _ _ D.c2 p3
  refine wpAny_bind (wpAny_seqItems p4 rfl ?_); refine wpAny_bind (wpAny_updateSeq_pair p4 fun k5 p5 q5 => ?_)
  replace p5 : IsPair k5 to_ (.str ⟨#[c]⟩ s.toks) (.str ⟨#[d]⟩ (s.toks + 1)) := p5
  refine wpAny_bind (wpAny_letGo (wpAny_pure (wpAny_pure ?_))); refine wpAny_bind (wpAny_seqItems p5 rfl ?_)
  refine wpAny_bind (wpAny_newTuple ?_)
  have e5 : k5.objs.size = s.heap.objs.size := by rw [q5.1, q4.1, q3.1, q2.1, q1.1]
  have z5 : IsZip k5 gz ti to_ .ellipsis := q5.extBut _ _ D.a2.symm (q4.extBut _ _ D.a4.symm (q3.extBut _ _ D.a2.symm (q2.extBut _ _ D.a3.symm z1)))
  have f5 : ∀ m o, m ≠ gz → m ≠ to_ → m ≠ j1 → m ≠ j2 → s.heap.get? m = some o → k5.get? m = some o := fun m o m1 m2 m3 m4 e => q5.extBut _ _ m2 (q4.extBut _ _ m4 (q3.extBut _ _ m2 (q2.extBut _ _ m3 (q1.extBut _ _ m1 e))))
  have i5 : k5.IsStrIter j1 (strIterType x) x t (n + 1) := strIt_mv i2 fun o e => q5.extBut _ _ D.c1.symm (q4.extBut _ _ D.d (q3.extBut _ _ D.c1.symm e))
  have o5 : k5.IsStrIter j2 (strIterType y) y u (n + 1) := strIt_mv i4 fun o e => q5.extBut _ _ D.c2.symm e
  have lz : gz < k5.objs.size := Heap.lt_size z5
  show wpAny _ _ (Builtin.SmallTypes.ownedTupleHandOut (.ref gz) (.ref k5.objs.size) >>= _) _ _ _; refine wpAny_bind ?_
  unfold Builtin.SmallTypes.ownedTupleHandOut
  have z6 : IsZip (k5.push { cls := .type "tuple", data := .seq #[.str ⟨#[c]⟩ s.toks, .str ⟨#[d]⟩ (s.toks + 1)] }) gz ti to_ .ellipsis := Heap.get?_push_of_some _ z5
  refine wpAny_bind (wpAny_setField_rec z6 (by simp) fun k7 z7 q7 => ?_); replace z7 : IsZip k7 gz ti to_ (rawInt k5.objs.size) := z7
  refine wpAny_setField_rec z7 (by simp) fun k8 z8 q8 => ?_; replace z8 : IsZip k8 gz ti to_ (rawInt k5.objs.size) := z8
  have up : ∀ m o, m ≠ gz → k5.get? m = some o → k8.get? m = some o := fun m o m1 e => q8.extBut _ _ m1 (q7.extBut _ _ m1 (Heap.get?_push_of_some _ e))
  have t8 : IsPair k8 k5.objs.size (.str ⟨#[c]⟩ s.toks) (.str ⟨#[d]⟩ (s.toks + 1)) := q8.extBut _ _ (Nat.ne_of_gt lz) (q7.extBut _ _ (Nat.ne_of_gt lz) (Heap.get?_push_size _ rfl))
  have e8 : k8.objs.size = k5.objs.size + 1 := by rw [q8.1, q7.1, Heap.size_push]
  rw [e5] at z8 t8 e8
  refine wpAny_pure ⟨_, rfl, ?_⟩; show Q (.ref k5.objs.size) _; rw [e5]
  exact k k8 z8 (up _ _ D.a2 p5) (strIt_mv i5 fun o e => up _ o D.a3 e) (strIt_mv o5 fun o e => up _ o D.a4 e) t8 e8 fun m o m1 m2 m3 m4 e => up m o m1 (f5 m o m1 m2 m3 m4 e)
/-- no next pair -/
theorem zs_stop {gz ti to_ j1 j2 : Addr} {n : Nat} {x y : Str} {t u : Tok} {a b : Value} {Q : Fin → Shared → Prop} (hh : A.handled = none) (D : Ap5 gz ti to_ j1 j2) (g0 : IsZip s.heap gz ti to_ .none) (g1 : IsPair s.heap ti (.ref j1) (.ref j2)) (g2 : IsPair s.heap to_ a b)
    (r1 : s.heap.IsStrIter j1 (strIterType x) x t n) (r2 : s.heap.IsStrIter j2 (strIterType y) y u n) (hend : x.cps[n]? = none ∨ y.cps[n]? = none)
    (k : ∀ h' e tk, (∀ m o, m ≠ gz → m ≠ to_ → m ≠ j1 → m ≠ j2 → s.heap.get? m = some o → h'.get? m = some o) → (∃ o, h'.get? e = some o ∧ o.cls = .type "StopIteration") → E (.ref e) { s with heap := h', toks := tk }) :
    wpAny (model prog w) A (Builtin.«zip.__next__» ⟨[.ref gz], []⟩) Q E s := by
  show wpAny _ _ (field (.ref gz) 2 >>= _) _ _ _; refine wpAny_bind (wpAny_field g0 rfl (x := .bool false) rfl ?_)
  show wpAny _ _ (field (.ref gz) 3 >>= _) _ _ _; refine wpAny_bind (wpAny_field g0 rfl (x := .ref ti) rfl ?_)
  refine wpAny_bind (wpAny_seqItems g1 rfl ?_); show wpAny _ _ (Builtin.SmallTypes.ownedTupleIsFree (.ref gz) >>= _) _ _ _
  refine wpAny_bind ?_; unfold Builtin.SmallTypes.ownedTupleIsFree
  refine wpAny_bind (wpAny_field g0 rfl (x := .none) rfl (wpAny_pure ?_)); simp only [if_true]
  refine wpAny_bind (wpAny_rule ?_); refine wpAny_bind (wpAny_field g0 rfl (x := .ref to_) rfl ?_)
  refine wpAny_bind (wpAny_setField_rec g0 (by simp) fun k1 z1 q1 => ?_); replace z1 : IsZip k1 gz ti to_ .ellipsis := z1
  refine wpAny_bind ?_; simp only [List.zipIdx_cons, List.zipIdx_nil, List.forIn_cons, List.forIn_nil]
  refine wpAny_bind (wpAny_bind (wpAny_onRaise ?_)); show wpAny _ _ (Builtin.SmallTypes.nextOf (.ref j1) >>= _) _ _ _
  have r1' : k1.IsStrIter j1 (strIterType x) x t n := strIt_mv r1 fun o e => q1.extBut _ _ D.a3 e
  cases hx : x.cps[n]? with
  | none =>
    refine wpAny_bind (zs_end (s := { s with heap := k1 }) hh r1' hx fun k2 e q2 he => ?_)
    obtain ⟨oe, h1, h2⟩ := he
    have z2 : IsZip k2 gz ti to_ .ellipsis := q2 _ _ D.a3.symm z1
    have ne : e ≠ gz := fun q => by subst q; rw [z2] at h1; cases h1; simp at h2
    exact wpAny_setField_rec z2 (by simp) fun k3 _ q3 => k k3 e s.toks (fun m o m1 _ m3 _ v => q3.extBut _ _ m1 (q2 _ _ m3 (q1.extBut _ _ m1 v))) ⟨oe, q3.extBut _ _ ne h1, h2⟩
  | some c =>
    have hy : y.cps[n]? = none := by
      rcases hend with h | h
      · rw [hx] at h; cases h
      · exact h
    refine wpAny_bind (zs_item (s := { s with heap := k1 }) r1' hx fun k2 i2 q2 => wpAny_pure ?_)
    have p2 : IsPair k2 to_ a b := q2.extBut _ _ D.c1 (q1.extBut _ _ D.a2 g2)
    refine wpAny_bind (wpAny_seqItems p2 rfl ?_); refine wpAny_bind (wpAny_updateSeq_pair p2 fun k3 p3 q3 => ?_)
    refine wpAny_bind (wpAny_letGo (wpAny_pure ?_)); refine wpAny_bind (wpAny_bind (wpAny_onRaise ?_))
    show wpAny _ _ (Builtin.SmallTypes.nextOf (.ref j2) >>= _) _ _ _
    refine wpAny_bind (zs_end (s := { s with heap := k3, toks := s.toks + 1 }) hh (strIt_mv r2 fun o e => q3.extBut _ _ D.c2.symm (q2.extBut _ _ D.d.symm (q1.extBut _ _ D.a4 e))) hy fun k4 e q4 he => ?_)
    obtain ⟨oe, h1, h2⟩ := he
    have z4 : IsZip k4 gz ti to_ .ellipsis := q4 _ _ D.a4.symm (q3.extBut _ _ D.a2.symm (q2.extBut _ _ D.a3.symm z1))
    have ne : e ≠ gz := fun q => by subst q; rw [z4] at h1; cases h1; simp at h2
    exact wpAny_setField_rec z4 (by simp) fun k5 _ q5 => k k5 e (s.toks + 1) (fun m o m1 m2 m3 m4 v => q5.extBut _ _ m1 (q4 _ _ m4 (q3.extBut _ _ m2 (q2.extBut _ _ m3 (q1.extBut _ _ m1 v))))) ⟨oe, q5.extBut _ _ ne h1, h2⟩
end
end L2.DL

set_option Elab.async false
set_option linter.all false
set_option autoImplicit false
set_option maxRecDepth 100000
set_option maxHeartbeats 4000000
/-! zip of two texts: the call, the turn, the word. -/
namespace L2.DL
open PySem PySem.Spec PyProof.Rows
abbrev itO (x : Str) (t : Tok) : Obj := { cls := .type (strIterType x), data := .fields #[.str x t, .int 0 0] }
abbrev prO (a b : Value) : Obj := { cls := .type "tuple", data := .seq #[a, b] }
abbrev zsH2 (h : Heap) (x y : Str) (t u : Tok) : Heap := (h.push (itO x t)).push (itO y u)
abbrev zsH4 (h : Heap) (x y : Str) (t u : Tok) : Heap := ((zsH2 h x y t u).push (prO (.ref h.objs.size) (.ref (h.push (itO x t)).objs.size))).push (prO .none .none)
abbrev zsH5 (h : Heap) (x y : Str) (t u : Tok) : Heap := (zsH4 h x y t u).push { cls := .type "zip", data := .fields #[.none, .bool false, .bool false, .ref (zsH2 h x y t u).objs.size, .ref ((zsH2 h x y t u).push (prO (.ref h.objs.size) (.ref (h.push (itO x t)).objs.size))).objs.size] }
theorem meets_zs (x y : Str) (t u : Tok) : Meets (Builtin.«zip.__new__» ⟨[.type "zip", .str x t, .str y u], []⟩) (fun _ R s => R (.ok (.ret (.ref (zsH4 s.heap x y t u).objs.size))) { s with heap := zsH5 s.heap x y t u }) :=
  .of_wp fun prog w A R s h => by
    obtain ⟨hp, g, d, tk, os⟩ := s
    have hsub := sub_zip
    wp_walk using wpAny_pyIter_strU, wpAny_pyIter_strU
    exact ⟨_, rfl, h⟩
section
variable {prog : Program} {w : World} {A : Around} {E : Value → Shared → Prop} {s : Shared}
theorem call_zs {x y : Str} {t u : Tok} {Q : Value → Shared → Prop}
    (k : ∀ h', IsZip h' (s.heap.objs.size + 4) (s.heap.objs.size + 2) (s.heap.objs.size + 3) .none → IsPair h' (s.heap.objs.size + 2) (.ref s.heap.objs.size) (.ref (s.heap.objs.size + 1)) → IsPair h' (s.heap.objs.size + 3) .none .none →
      h'.IsStrIter s.heap.objs.size (strIterType x) x t 0 → h'.IsStrIter (s.heap.objs.size + 1) (strIterType y) y u 0 → (∀ c o, s.heap.get? c = some o → h'.get? c = some o) → Q (.ref (s.heap.objs.size + 4)) { s with heap := h' }) :
    wpAny (model prog w) A (call (.type "zip") [.str x t, .str y u]) Q E s := by
  refine callType_new F.called_zip (by decide) (F.typeCall_zip_2 _ _) (F.newCall_zip_2 _ _) (fun obj => F.args_object_init_3 obj _ _) F.entry_zip_new (meets_zs x y t u) ?_
  have n1 : (s.heap.push (itO x t)).objs.size = s.heap.objs.size + 1 := Heap.size_push ..
  have n2 : (zsH2 s.heap x y t u).objs.size = s.heap.objs.size + 2 := by rw [Heap.size_push, n1]
  have n3 : ((zsH2 s.heap x y t u).push (prO (.ref s.heap.objs.size) (.ref (s.heap.push (itO x t)).objs.size))).objs.size = s.heap.objs.size + 3 := by rw [Heap.size_push, n2]
  have n4 : (zsH4 s.heap x y t u).objs.size = s.heap.objs.size + 4 := by rw [Heap.size_push, n3]
  have p1 : ∀ {h : Heap} {o o' : Obj} {b : Addr}, h.get? b = some o → (h.push o').get? b = some o := fun e => Heap.get?_push_of_some _ e
  have v5 : (zsH5 s.heap x y t u).get? (zsH4 s.heap x y t u).objs.size = some _ := Heap.get?_push_size _ rfl
  have v4 : (zsH5 s.heap x y t u).get? ((zsH2 s.heap x y t u).push (prO (.ref s.heap.objs.size) (.ref (s.heap.push (itO x t)).objs.size))).objs.size = some _ := p1 (Heap.get?_push_size _ rfl)
  have v3 : (zsH5 s.heap x y t u).get? (zsH2 s.heap x y t u).objs.size = some _ := p1 (p1 (Heap.get?_push_size _ rfl))
  have v2 : (zsH5 s.heap x y t u).get? (s.heap.push (itO x t)).objs.size = some _ := p1 (p1 (p1 (Heap.get?_push_size _ rfl)))
  have v1 : (zsH5 s.heap x y t u).get? s.heap.objs.size = some _ := p1 (p1 (p1 (p1 (Heap.get?_push_size _ rfl))))
  show _ ∧ _
  rw [n2, n3, n4] at v5
  rw [n1, n2] at v3
  rw [n3] at v4
  rw [n1] at v2
  rw [n4]
  exact ⟨⟨_, v5, rfl⟩, k _ v5 v3 v4 ⟨_, v1, rfl, rfl⟩ ⟨_, v2, rfl, rfl⟩ fun c o e => p1 (p1 (p1 (p1 (p1 e))))⟩
theorem zs_pyItem {gz ti to_ j1 j2 : Addr} {n : Nat} {x y : Str} {t u : Tok} {c d : Nat} {a b : Value} {Q : Option Value → Shared → Prop} (D : Ap5 gz ti to_ j1 j2) (g0 : IsZip s.heap gz ti to_ .none) (g1 : IsPair s.heap ti (.ref j1) (.ref j2)) (g2 : IsPair s.heap to_ a b)
    (r1 : s.heap.IsStrIter j1 (strIterType x) x t n) (r2 : s.heap.IsStrIter j2 (strIterType y) y u n) (hc : x.cps[n]? = some c) (hd : y.cps[n]? = some d)
    (k : ∀ h', IsZip h' gz ti to_ (rawInt s.heap.objs.size) → IsPair h' to_ (.str ⟨#[c]⟩ s.toks) (.str ⟨#[d]⟩ (s.toks + 1)) → h'.IsStrIter j1 (strIterType x) x t (n + 1) → h'.IsStrIter j2 (strIterType y) y u (n + 1) →
      IsPair h' s.heap.objs.size (.str ⟨#[c]⟩ s.toks) (.str ⟨#[d]⟩ (s.toks + 1)) → h'.objs.size = s.heap.objs.size + 1 → (∀ m o, m ≠ gz → m ≠ to_ → m ≠ j1 → m ≠ j2 → s.heap.get? m = some o → h'.get? m = some o) →
      Q (some (.ref s.heap.objs.size)) { s with heap := h', toks := s.toks + 1 + 1 }) : wpAny (model prog w) A (pyNext (.ref gz)) Q E s := by
  have hT : s.TypeIs (.ref gz) "zip" := ⟨_, g0, rfl⟩
  unfold pyNext
  exact wpAny_bind (wpAny_attempt (wpAny_callSpecial?_slot (name := Str.ofString "__next__") hT F.slot_zip_next (wpAny_call_entry F.slot_zip_next hT F.entry_zip_next (zs_next D g0 g1 g2 r1 r2 hc hd fun h' a1 a2 a3 a4 a5 a6 a7 => wpAny_pure (k h' a1 a2 a3 a4 a5 a6 a7)) (F.args_zip_next_1 _))))
theorem zs_pyEnd {gz ti to_ j1 j2 : Addr} {n : Nat} {x y : Str} {t u : Tok} {a b : Value} {Q : Option Value → Shared → Prop} (hh : A.handled = none) (D : Ap5 gz ti to_ j1 j2) (g0 : IsZip s.heap gz ti to_ .none) (g1 : IsPair s.heap ti (.ref j1) (.ref j2)) (g2 : IsPair s.heap to_ a b)
    (r1 : s.heap.IsStrIter j1 (strIterType x) x t n) (r2 : s.heap.IsStrIter j2 (strIterType y) y u n) (hend : x.cps[n]? = none ∨ y.cps[n]? = none)
    (k : ∀ h' tk, (∀ m o, m ≠ gz → m ≠ to_ → m ≠ j1 → m ≠ j2 → s.heap.get? m = some o → h'.get? m = some o) → Q none { s with heap := h', toks := tk }) : wpAny (model prog w) A (pyNext (.ref gz)) Q E s := by
  have hT : s.TypeIs (.ref gz) "zip" := ⟨_, g0, rfl⟩
  unfold pyNext
  refine wpAny_bind (wpAny_attempt (wpAny_callSpecial?_slot (name := Str.ofString "__next__") hT F.slot_zip_next (wpAny_call_entry F.slot_zip_next hT F.entry_zip_next (zs_stop hh D g0 g1 g2 r1 r2 hend fun h' e tk hk he => ?_) (F.args_zip_next_1 _))))
  obtain ⟨o, ho, hc⟩ := he
  exact wpAny_bind (wpAny_isInstance (T := "StopIteration") (b := true) ⟨o, ho, hc⟩ isSubtype_stop (wpAny_pure (k _ _ hk)))
end
theorem ap_new (n : Nat) : Ap5 (n + 4) (n + 2) (n + 3) n (n + 1) := ⟨by show (n + 2 : Nat) ≠ n + 4; omega, by show (n + 3 : Nat) ≠ n + 4; omega, by show (n : Nat) ≠ n + 4; omega, by show (n + 1 : Nat) ≠ n + 4; omega, by show (n + 2 : Nat) ≠ n + 3; omega, by show (n + 2 : Nat) ≠ n; omega, by show (n + 2 : Nat) ≠ n + 1; omega, by show (n + 3 : Nat) ≠ n; omega, by show (n + 3 : Nat) ≠ n + 1; omega, by show (n : Nat) ≠ n + 1; omega⟩
/-- two texts, sign by sign, in new pairs -/
def Itzs (x y : Str) : It :=
  ⟨fun i _ => i < x.cps.size ∧ i < y.cps.size, fun i H v H' => ∃ T c d, v = .ref T ∧ H T = none ∧ x.cps[i]? = some c ∧ y.cps[i]? = some d ∧ H' = upd H T (.tup [.str ⟨#[c]⟩, .str ⟨#[d]⟩]), fun i _ => x.cps.size ≤ i ∨ y.cps.size ≤ i⟩
theorem turn_zs {P : Program} {w : World} {K : PySem.W.Frag} {elts : List Expr} {kk : Nat} {tpos : Pos} {gz ti to_ j1 j2 : Addr} (x y : Str) (t u : Tok) (D : Ap5 gz ti to_ j1 j2) :
    Turn P w K (.Tuple elts kk tpos) (Itzs x y) [gz, ti, to_, j1, j2] gz (fun i h => IsZip h gz ti to_ .none ∧ IsPair h ti (.ref j1) (.ref j2) ∧ (∃ a b, IsPair h to_ a b) ∧ h.IsStrIter j1 (strIterType x) x t i ∧ h.IsStrIter j2 (strIterType y) y u i) where
  mem := by simp
  obj := fun i h st m hm => by
    obtain ⟨g0, g1, ⟨a, b, g2⟩, ⟨o1, e1, _, d1⟩, ⟨o2, e2, _, d2⟩⟩ := st
    rcases (show m = gz ∨ m = ti ∨ m = to_ ∨ m = j1 ∨ m = j2 by simpa using hm) with q | q | q | q | q
    · rw [q]; exact ⟨_, g0, fun v r => nomatch r⟩
    · rw [q]; exact ⟨_, g1, fun v r => nomatch r⟩
    · rw [q]; exact ⟨_, g2, fun v r => nomatch r⟩
    · rw [q]; exact ⟨o1, e1, fun v r => by rw [d1] at r; cases r⟩
    · rw [q]; exact ⟨o2, e2, fun v r => by rw [d2] at r; cases r⟩
  keep := fun i h h' st k => by
    obtain ⟨g0, g1, ⟨a, b, g2⟩, r1, r2⟩ := st
    exact ⟨k gz (by simp) _ g0, k ti (by simp) _ g1, ⟨a, b, k to_ (by simp) _ g2⟩, strIt_mv r1 fun o e => k j1 (by simp) o e, strIt_mv r2 fun o e => k j2 (by simp) o e⟩
  item := by
    intro X hP hw hK hc i pins s σ H E I hf st hg
    subst hP hw hK
    obtain ⟨g0, g1, ⟨a, b, g2⟩, r1, r2⟩ := st
    obtain ⟨l1, l2⟩ := hg
    have lz : gz < s.heap.objs.size := Heap.lt_size g0
    refine zs_pyItem D g0 g1 g2 r1 r2 (c := x.cps[i]) (d := y.cps[i]) (by simp [l1]) (by simp [l2]) fun h' z' to' r1' r2' hT hsz hk => ?_
    refine ⟨_, rfl, wpAny_letOwnedTupleGo_zip (s := { s with heap := h', toks := s.toks + 1 + 1 }) z' fun h'' z'' sb => ?_⟩
    have hT2 : h''.get? s.heap.objs.size = some { cls := .type "tuple", data := .seq #[.str ⟨#[x.cps[i]]⟩ s.toks, .str ⟨#[y.cps[i]]⟩ (s.toks + 1)] } := (sb.2 _ (Nat.ne_of_gt lz)).trans hT
    have new : ObjOk X.prog X.w (upd H s.heap.objs.size (.tup [.str ⟨#[x.cps[i]]⟩, .str ⟨#[y.cps[i]]⟩])) h'' s.heap.objs.size (.tup [.str ⟨#[x.cps[i]]⟩, .str ⟨#[y.cps[i]]⟩]) :=
      ⟨by show 2 ≤ sizeLine; decide, [.str ⟨#[x.cps[i]]⟩ s.toks, .str ⟨#[y.cps[i]]⟩ (s.toks + 1)], .cons ⟨_, rfl⟩ (.cons ⟨_, rfl⟩ .nil), ⟨_, hT2, rfl, _, rfl⟩⟩
    have I1 : Inv X pins σ (upd H s.heap.objs.size (.tup [.str ⟨#[x.cps[i]]⟩, .str ⟨#[y.cps[i]]⟩])) { s with heap := h'', toks := s.toks + 1 + 1 } :=
      I.turnedNew (ch := [gz, ti, to_, j1, j2]) (fun m o hb q => (sb.2 m (fun r => hb (by simp [r]))).trans (hk m o (fun r => hb (by simp [r])) (fun r => hb (by simp [r])) (fun r => hb (by simp [r])) (fun r => hb (by simp [r])) q)) hf (Nat.le_refl _) new
    refine ⟨.ref s.heap.objs.size, _, I1, rfl, ⟨_, x.cps[i], y.cps[i], rfl, I.hok.fresh (Nat.le_refl _), by simp [l1], by simp [l2], rfl⟩, ⟨z'', ?_, ⟨_, _, (sb.2 _ D.a2).trans to'⟩, strIt_mv r1' fun o e => (sb.2 _ D.a3).trans e, strIt_mv r2' fun o e => (sb.2 _ D.a4).trans e⟩, fun m hm => ?_⟩
    · exact (sb.2 _ D.a1).trans (hk _ _ D.a1 D.b1 D.b2 D.b3 g1)
    · have hlt : m < s.heap.objs.size := by
        rcases (show m = gz ∨ m = ti ∨ m = to_ ∨ m = j1 ∨ m = j2 by simpa using hm) with q | q | q | q | q
        · rw [q]; exact lz
        · rw [q]; exact Heap.lt_size g1
        · rw [q]; exact Heap.lt_size g2
        · rw [q]; obtain ⟨_, e1, _⟩ := r1; exact Heap.lt_size e1
        · rw [q]; obtain ⟨_, e2, _⟩ := r2; exact Heap.lt_size e2
      rw [upd_ne (Nat.ne_of_lt hlt)]
      exact (hf m hm).1
  done := by
    intro X hP hw hK hc i pins s σ H E I hf st hg
    subst hP hw hK
    obtain ⟨g0, g1, ⟨a, b, g2⟩, r1, r2⟩ := st
    have he : x.cps[i]? = none ∨ y.cps[i]? = none := by
      rcases hg with q | q
      · exact .inl (by simp; exact q)
      · exact .inr (by simp; exact q)
    exact zs_pyEnd (I.ok.hd hc) D g0 g1 g2 r1 r2 he fun h' tk hk => ⟨rfl, I.turnedL (t' := tk) (ch := [gz, ti, to_, j1, j2]) (fun m o hb q => hk m o (fun r => hb (by simp [r])) (fun r => hb (by simp [r])) (fun r => hb (by simp [r])) (fun r => hb (by simp [r])) q) hf⟩
  self := fun A i s Q E st h => wpAny_pyIter_zip st.1 h
theorem walkD_zs {K : PySem.W.Frag} {H0 : Hp} {x y : Str} : WalkD K (Itzs x y) (zipD (signs x) (signs y)) H0 := by
  have e : (zipD (signs x) (signs y)).length = min x.cps.size y.cps.size := by rw [zipD_length, signs, signs, List.length_map, List.length_map, Array.length_toList, Array.length_toList]
  refine ⟨fun i H hi _ => by rw [e] at hi; exact ⟨by omega, by omega⟩, fun H _ => by rw [e]; show x.cps.size ≤ _ ∨ y.cps.size ≤ _; omega, fun i H v H' hi _ yy => ?_⟩
  obtain ⟨T, c, d, rfl, hT, hc, hd, e1⟩ := yy
  refine ⟨_, zipD_at (signs x) (signs y) i (.str ⟨#[c]⟩) (.str ⟨#[d]⟩) ?_ ?_, .inr ⟨T, _, _, _, _, rfl, hT, e1, .str _, .str _, rfl⟩⟩
  · unfold signs
    rw [List.getElem?_map, Array.getElem?_toList, hc]
    rfl
  · unfold signs
    rw [List.getElem?_map, Array.getElem?_toList, hd]
    rfl
section
variable {X : Cx} {F : Hp} {γ : Gm} {pos : Pos}
/-- zip of two lists, or of two texts -/
def zipA (ds : List D) (P : List D → Prop) : Prop := match ds with
  | [.str x, .str y] => P (zipD (signs x) (signs y))
  | [.lst x, .lst y] => P (zipD x y)
  | _ => False
theorem zipA_s {x y : Str} {P : List D → Prop} : zipA [.str x, .str y] P = P (zipD (signs x) (signs y)) := rfl
theorem zipA_l {x y : List D} {P : List D → Prop} : zipA [.lst x, .lst y] P = P (zipD x y) := rfl
def wZipA (w u : WE) : WI := fun env c P => wCons w (wCons u wNil) env c fun ds c2 => zipA ds fun es => P es c2
theorem dpZipS {a b : Expr} {wa wb : WE} {p tpos : Pos} {elts : List Expr} {kk : Nat} (hm : X.mg "zip" = none) (ha : PE X a (tG X.K F γ wa)) (hb : PE X b (tG X.K F γ wb)) (hg : Gl X "zip" := by rfl) (h1 : starEach [b] X.env = [(false, eval b X.env)] := by rfl)
    (h2 : starEach [a, b] X.env = (false, eval a X.env) :: starEach [b] X.env := by rfl) (hpl : (backTo pos (starEach [b] X.env)).any (·.1) = false := by rfl) :
    PI X (.Tuple elts kk tpos) (.Call (.Name "zip" p) [a, b] [] pos) (iG X.K F γ (wZipA wa wb)) := by
  refine ⟨fun pins s σ H R I h => ?_⟩
  have h' : tA X.K F γ (wCons wa (wCons wb wNil)) σ H fun vs H1 => (∃ x y, vs = [.str x, .str y] ∧ R (Itzs x y) H1) ∨ ∃ m n xs ys, vs = [.ref m, .ref n] ∧ SqL X.K H1 m xs ∧ SqL X.K H1 n ys ∧ R (Itz X.K m n) H1 := by
    obtain ⟨H0, env, c, P, RR, q, k⟩ := h
    refine ⟨H0, env, c, _, RR, q, fun ds c1 vs H1 H01 q1 s1 R1 h1 => ?_⟩
    unfold zipA at q1
    split at q1
    · rename_i x y
      cases h1 with
      | cons v1 r =>
        cases r with
        | cons v2 r =>
          cases r
          cases v1
          cases v2
          exact .inl ⟨x, y, rfl, k _ _ _ _ _ q1 s1 R1 walkD_zs⟩
    · rename_i ds es
      cases h1 with
      | cons v1 r =>
        cases r with
        | cons v2 r =>
          cases r
          cases v1 with
          | @lst m xs _ g1 g2 =>
            cases v2 with
            | @lst n ys _ g3 g4 =>
              refine .inr ⟨m, n, xs, ys, rfl, SqL.of (R1.core.sub _ _ g1), SqL.of (R1.core.sub _ _ g3), k _ _ _ _ _ q1 s1 R1 ?_⟩
              have w : Walk (Itz X.K m n) (zipD ds es).length (fun H => SqL X.K H m xs ∧ SqL X.K H n ys) (YPair (fun i => xs[i]?) (fun i => ys[i]?)) := walk_zip (n := (zipD ds es).length) (by rw [zipD_length, ← g2.length, ← g4.length])
              refine w.mono (fun H s => ⟨SqL.of (s _ _ g1), SqL.of (s _ _ g3)⟩) fun i H x H' hi s y => ?_
              obtain ⟨T, a, b, rfl, hT, e, e1, e2⟩ := y
              obtain ⟨d1, hd1, hx1⟩ := g2.get e1
              obtain ⟨d2, hd2, hx2⟩ := g4.get e2
              exact ⟨_, zipD_at ds es i d1 d2 hd1 hd2, .inr ⟨T, _, _, _, _, rfl, hT, e, hx1, hx2, rfl⟩⟩
    · exact q1.elim
  have fresh5 : ∀ {s1 : Shared} {H1 : Hp}, Inv X pins σ H1 s1 → ∀ m ∈ [s1.heap.objs.size + 4, s1.heap.objs.size + 2, s1.heap.objs.size + 3, s1.heap.objs.size, s1.heap.objs.size + 1], FpOk X pins H1 m := fun {s1 H1} I1 m hm => by
    have hle : s1.heap.objs.size ≤ m := by
      rcases (show m = s1.heap.objs.size + 4 ∨ m = s1.heap.objs.size + 2 ∨ m = s1.heap.objs.size + 3 ∨ m = s1.heap.objs.size ∨ m = s1.heap.objs.size + 1 by simpa using hm) with z | z | z | z | z
      · rw [z]; exact Nat.le_add_right _ _
      · rw [z]; exact Nat.le_add_right _ _
      · rw [z]; exact Nat.le_add_right _ _
      · rw [z]; exact Nat.le_refl _
      · rw [z]; exact Nat.le_add_right _ _
    exact I1.fpOk hle (I1.hok.fresh hle)
  refine Call_ (ld_blt I hg hm PyProof.Rows.boot_zip (PyProof.Rows.callWith_type1 (thn ((daCons ha (daCons hb daNil h1) h2).run pos pins s σ H _ I h') fun us s1 ⟨vs, H1, I1, r1, q⟩ => ?_) h2 hpl))
  rcases q with ⟨x, y, ex, q⟩ | ⟨m, n, xs, ys, ex, hq1, hq2, q⟩
  · subst ex
    cases r1 with
    | cons r rr =>
      cases rr with
      | cons r' rr =>
        cases rr
        obtain ⟨t, rfl⟩ := r
        obtain ⟨u, rfl⟩ := r'
        refine call_zs fun h' hz hTI hTO r1 r2 hk => wpAny_pyIter_zip hz ?_
        have I2 : Inv X pins σ H1 { s1 with heap := h' } := I1.kept (t' := s1.toks) hk
        exact ⟨s1.heap.objs.size + 4, [s1.heap.objs.size + 4, s1.heap.objs.size + 2, s1.heap.objs.size + 3, s1.heap.objs.size, s1.heap.objs.size + 1], _, _, H1, rfl, I2, turn_zs x y t u (ap_new _), ⟨hz, hTI, ⟨_, _, hTO⟩, r1, r2⟩, fresh5 I1, q⟩
  · subst ex
    cases r1 with
    | cons r rr =>
      cases rr with
      | cons r' rr =>
        cases rr
        cases r
        cases r'
        obtain ⟨_, _, p1, _⟩ := I1.list hq1
        obtain ⟨_, _, p2, _⟩ := I1.list hq2
        refine call_zip_2 p1.isList p2.isList fun h' hz hTI hTO r1 r2 hsz hk => wpAny_pyIter_zip hz ?_
        have I2 : Inv X pins σ H1 { s1 with heap := h' } := I1.kept (t' := s1.toks) hk
        exact ⟨s1.heap.objs.size + 4, [s1.heap.objs.size + 4, s1.heap.objs.size + 2, s1.heap.objs.size + 3, s1.heap.objs.size, s1.heap.objs.size + 1], _, _, H1, rfl, I2, turn_zip (PySem.W.ktu_apart s1.heap.objs.size m n p1.lt p2.lt), ⟨hz, hTI, ⟨_, _, hTO⟩, r1, r2⟩, fresh5 I1, q⟩
end
end L2.DL

set_option Elab.async false
set_option linter.all false
set_option autoImplicit false
set_option maxRecDepth 100000
set_option maxHeartbeats 4000000
/-! States that differ at one lamp: what comes next is such a one. -/
namespace L2.DL
open PySem PySem.Spec
/-- one lamp switched -/
def One1 (x y : List Bool) : Prop := ∃ (a b : List Bool) (c : Bool) (m : Int), x = rot (a ++ c :: b) m ∧ y = rot (a ++ (!c) :: b) m
theorem One1.symm {x y : List Bool} (h : One1 x y) : One1 y x := by
  obtain ⟨a, b, c, m, e1, e2⟩ := h
  exact ⟨a, b, !c, m, e2, by rw [Bool.not_not]; exact e1⟩
theorem one_at (a b : List Bool) (c : Bool) : One1 (a ++ c :: b) (a ++ (!c) :: b) := ⟨a, b, c, 0, (rot_0 _).symm, (rot_0 _).symm⟩
theorem one_last (w : List Bool) (k : Int) (b : Bool) : One1 (st w k b) (st w k (!b)) := ⟨w, [], b, k, rfl, rfl⟩
theorem one_turn {w : List Bool} (h : dy 0 w = true) (hn : w ≠ []) (k : Int) : One1 (st w k false) (st (turnZ w 1) (k + 1) true) := by
  obtain ⟨a, b, c, m, e1, e2, _⟩ := lp_next h hn k 0
  rw [lp_low] at e1
  exact ⟨a, b, c, m, e1, e2⟩
section
variable {σ : Lot}
theorem one_turnS {w : List Bool} {k : Int} (h : HOK w k) (b : Bool) : One1 (st w k b) (turnS w k b) := by
  unfold turnS
  cases b with
  | false => exact one_turn h.d h.n k
  | true =>
    obtain ⟨d1, d2, _⟩ := turnZ_dy h.d h.n (-1)
    have := one_turn d1 d2 (k - 1)
    rw [tz_back h (-1) 1 rfl, Int.sub_add_cancel] at this
    exact this.symm
theorem one_ring {x : List Bool} (hp : isP x = true) (hd : dy 0 x = true) : One1 (st x 0 false) (st (turnZ (pull3 x) 1) 1 true) ∧ One1 (st (pull3 x) 0 false) (st (turnZ x 3) 3 true) ∧ One1 (st (turnZ x 3) 3 false) (st (turnZ x 1) 1 true) := by
  obtain ⟨u, v, hu, hv, e, _⟩ := P_split hp hd
  have er := ring6_of hu hv
  rw [← e] at er
  unfold ring6 at er
  simp only [List.cons.injEq, and_true] at er
  obtain ⟨r0, r1, r2, r3, r4, r5⟩ := er
  rw [r0, r1, r2, r3, r4, r5, e]
  refine ⟨?_, ?_, ?_⟩
  · have := one_at [true, true] (u ++ false :: v ++ [false]) false
    simpa using this
  · have := one_at (true :: false :: true :: u) (v ++ [false]) false
    simpa using this
  · have := one_at [true] (false :: (u ++ true :: v ++ [false])) false
    simpa using this
theorem one_tied (hσ : LotOk σ) {w : List Bool} {k : Int} {b : Bool} (h : HOK w k) : One1 (st w k b) (tiedS σ w k b).1 ∧ One1 (st w k b) (tiedS σ w k b).2 := by
  have hl : One1 (st w k b) (lastS w k b) := one_last w k b
  have ht := one_turnS h b
  unfold tiedS
  by_cases q : k = 0 ∧ b = false
  · rw [if_pos q]
    refine ⟨hl, ?_⟩
    obtain ⟨rfl, rfl⟩ := q
    cases hw : σ w with
    | true =>
      rw [if_pos rfl]
      exact (one_ring (hσ _ hw) h.d).1
    | false =>
      rw [if_neg (by decide)]
      cases hu : underH σ w with
      | none => exact ht
      | some x =>
        obtain ⟨q1, q2, q3⟩ := under_some hu
        have hx : dy 0 x = true := by rw [q3]; exact dy_unpull q1 h.d
        have := (one_ring (hσ _ q2) hx).2.1
        rw [q3, pull_unpull q1, ← q3] at this
        exact this
  rw [if_neg q]
  by_cases q1 : k = 1 ∧ b = true
  · rw [if_pos q1]
    refine ⟨hl, ?_⟩
    obtain ⟨rfl, rfl⟩ := q1
    have hb := tz_back h (-1) 1 rfl
    obtain ⟨d1, d2, _⟩ := turnZ_dy h.d h.n (-1)
    cases hw : σ (turnZ w (-1)) with
    | true =>
      rw [if_pos rfl]
      have := (one_ring (hσ _ hw) d1).2.2
      rw [hb] at this
      exact this.symm
    | false =>
      rw [if_neg (by decide)]
      cases hu : underH σ (turnZ w (-1)) with
      | none => exact ht
      | some x =>
        obtain ⟨q1, q2, q3⟩ := under_some hu
        have hx : dy 0 x = true := by rw [q3]; exact dy_unpull q1 d1
        have := (one_ring (hσ _ q2) hx).1
        rw [q3, pull_unpull q1, hb, ← q3] at this
        exact this.symm
  rw [if_neg q1]
  by_cases q3 : k = 3 ∧ σ (turnZ w (-3)) = true
  · rw [if_pos q3]
    refine ⟨?_, ht⟩
    obtain ⟨rfl, hw⟩ := q3
    have hb := tz_back h (-3) 3 rfl
    obtain ⟨d1, d2, _⟩ := turnZ_dy h.d h.n (-3)
    obtain ⟨r1, r2, r3⟩ := one_ring (hσ _ hw) d1
    rw [hb] at r2 r3
    cases b with
    | true => exact r2.symm
    | false => exact r3
  rw [if_neg q3]
  exact ⟨hl, ht⟩
theorem one_next (hσ : LotOk σ) {w : List Bool} {k : Int} {b : Bool} (h : HOK w k) : One1 (st w k b) (stH (nextH σ w k b)) := by
  obtain ⟨o1, o2⟩ := one_tied hσ (b := b) h
  rcases tied_nb hσ (b := b) h with e | e
  · rw [e] at o1; exact o1
  · rw [e] at o2; exact o2
theorem one_before (hσ : LotOk σ) {w : List Bool} {k : Int} {b : Bool} (h : HOK w k) : One1 (st w k b) (stH (beforeH σ w k b)) := by
  obtain ⟨o1, o2⟩ := one_tied hσ (b := b) h
  rcases tied_nb hσ (b := b) h with e | e
  · rw [e] at o2; exact o2
  · rw [e] at o1; exact o1
theorem sh_ne {a a' : List Bool} {i j : Int} {b b' : Bool} (ha : dy 0 a = true) (ha' : dy 0 a' = true) (hi : 0 ≤ i) (hj : 0 ≤ j) (hi2 : i ≤ (a.length : Nat)) (hj2 : j ≤ (a.length : Nat)) (hne : i ≠ j) : st a i b ≠ st a' j b' := fun e => by
  obtain ⟨_, e2, _⟩ := st_inj ha ha' e
  rw [Int.emod_eq_of_lt hi (by omega), Int.emod_eq_of_lt hj (by omega)] at e2
  exact hne e2
theorem last_turn_ne {w : List Bool} {k : Int} {b : Bool} (h : HOK w k) : lastS w k b ≠ turnS w k b := fun e => by
  have l2 := h.len2
  have key : ∀ (i j : Int) (a a' : List Bool) (x y : Bool), dy 0 a = true → dy 0 a' = true → a.length = w.length → st a i x = st a' j y → j - i = 1 ∨ i - j = 1 → False := fun i j a a' x y ha ha' hl e hij => by
    obtain ⟨_, e2, _⟩ := st_inj ha ha' e
    rw [hl] at e2
    rcases hij with q | q
    · have := Int.emod_eq_emod_iff_emod_sub_eq_zero.mp e2.symm
      rw [q, Int.emod_eq_of_lt (by omega) (by omega)] at this
      cases this
    · have := Int.emod_eq_emod_iff_emod_sub_eq_zero.mp e2
      rw [q, Int.emod_eq_of_lt (by omega) (by omega)] at this
      cases this
  unfold lastS turnS at e
  cases b with
  | true =>
    rw [if_pos rfl] at e
    exact key _ _ _ _ _ _ h.d (turnZ_dy h.d h.n _).1 rfl e (.inr (by omega))
  | false =>
    rw [if_neg (by decide)] at e
    exact key _ _ _ _ _ _ h.d (turnZ_dy h.d h.n _).1 rfl e (.inl (by omega))
theorem tied_ne (hσ : LotOk σ) {w : List Bool} {k : Int} {b : Bool} (h : HOK w k) : (tiedS σ w k b).1 ≠ (tiedS σ w k b).2 := by
  have l2 := h.len2
  have hlt := last_turn_ne (b := b) h
  unfold tiedS
  by_cases q : k = 0 ∧ b = false
  · rw [if_pos q]
    obtain ⟨rfl, rfl⟩ := q
    show lastS w 0 false ≠ _
    cases hw : σ w with
    | true =>
      rw [if_pos rfl]
      have hp := hσ _ hw
      exact sh_ne h.d (turnZ_dy (dy_pull hp h.d) (by simp [pull3]) 1).1 (by decide) (by decide) (by omega) (by omega) (by decide)
    | false =>
      rw [if_neg (by decide)]
      cases hu : underH σ w with
      | none => exact hlt
      | some x =>
        obtain ⟨q1, q2, q3⟩ := under_some hu
        have hx : dy 0 x = true := by rw [q3]; exact dy_unpull q1 h.d
        have lx := lot_len (hσ _ q2) hx
        rw [q3, len_unpull q1] at lx
        exact sh_ne h.d (turnZ_dy hx (by rw [q3]; simp [unpull3]) 3).1 (by decide) (by decide) (by omega) (by omega) (by decide)
  rw [if_neg q]
  by_cases q1 : k = 1 ∧ b = true
  · rw [if_pos q1]
    obtain ⟨rfl, rfl⟩ := q1
    show lastS w 1 true ≠ _
    obtain ⟨d1, d2, d3⟩ := turnZ_dy h.d h.n (-1)
    cases hw : σ (turnZ w (-1)) with
    | true =>
      rw [if_pos rfl]
      have lx := lot_len (hσ _ hw) d1
      exact sh_ne h.d (turnZ_dy d1 d2 3).1 (by decide) (by decide) (by omega) (by omega) (by decide)
    | false =>
      rw [if_neg (by decide)]
      cases hu : underH σ (turnZ w (-1)) with
      | none => exact hlt
      | some x =>
        obtain ⟨q1, q2, q3⟩ := under_some hu
        have hx : dy 0 x = true := by rw [q3]; exact dy_unpull q1 d1
        exact sh_ne h.d hx (by decide) (by decide) (by omega) (by omega) (by decide)
  rw [if_neg q1]
  by_cases q3 : k = 3 ∧ σ (turnZ w (-3)) = true
  · rw [if_pos q3]
    obtain ⟨rfl, hw⟩ := q3
    obtain ⟨d1, d2, d3⟩ := turnZ_dy h.d h.n (-3)
    have lx := lot_len (hσ _ hw) d1
    have hp := hσ _ hw
    cases b with
    | true =>
      have e : turnS w 3 true = st (turnZ w (-1)) 2 false := rfl
      show st (pull3 (turnZ w (-3))) 0 false ≠ turnS w 3 true
      rw [e]
      exact sh_ne (dy_pull hp d1) (turnZ_dy h.d h.n _).1 (by decide) (by decide) (by rw [len_pull hp]; omega) (by rw [len_pull hp]; omega) (by decide)
    | false =>
      have e : turnS w 3 false = st (turnZ w 1) 4 true := rfl
      show st (turnZ (turnZ w (-3)) 1) 1 true ≠ turnS w 3 false
      rw [e]
      have e4 := (turnZ_dy d1 d2 1).2.2
      exact sh_ne (turnZ_dy d1 d2 1).1 (turnZ_dy h.d h.n _).1 (by decide) (by decide) (by omega) (by omega) (by decide)
  rw [if_neg q3]
  exact hlt
theorem nb_ne (hσ : LotOk σ) {w : List Bool} {k : Int} {b : Bool} (h : HOK w k) : stH (nextH σ w k b) ≠ stH (beforeH σ w k b) := by
  have hn := tied_ne hσ (b := b) h
  rcases tied_nb hσ (b := b) h with e | e
  · rw [e] at hn; exact hn
  · rw [e] at hn; exact hn.symm
end
/-- two words in their order -/
def ord2 (a b : List Bool) : List (List Bool) := if ltB a b then [a, b] else [b, a]
theorem ord2_asc {a b : List Bool} (h : a ≠ b) : asc (ord2 a b) := by
  unfold ord2
  cases q : ltB a b with
  | true => simp [asc, q]
  | false =>
    have : ltB b a = true := by
      cases z : ltB b a with
      | true => rfl
      | false => exact absurd (ltB_anti _ _ q z) h
    simp [asc, this]
theorem ord2_perm (a b : List Bool) : [a, b].Perm (ord2 a b) := by
  unfold ord2
  split
  · exact List.Perm.refl _
  · exact List.Perm.swap _ _ _
theorem ord2_comm {a b : List Bool} (h : a ≠ b) : ord2 a b = ord2 b a := by
  unfold ord2
  cases q : ltB a b with
  | true =>
    have : ltB b a = false := by
      cases z : ltB b a with
      | false => rfl
      | true =>
        have := ltB_trans _ _ _ q z
        rw [ltB_irr] at this
        cases this
    simp [this]
  | false =>
    have : ltB b a = true := by
      cases z : ltB b a with
      | true => rfl
      | false => exact absurd (ltB_anti _ _ q z) h
    simp [this]
/-- the lamps that differ, counted -/
theorem one_count {x y : List Bool} (h : One1 x y) : x.length = y.length ∧ ∃ p, p < x.length ∧ ∀ i, i < x.length → (x[i]? = y[i]? ↔ i ≠ p) := by
  obtain ⟨a, b, c, m, rfl, rfl⟩ := h
  refine ⟨by rw [rot_len, rot_len]; simp, (((a.length : Int) + m) % ((a.length + b.length + 1 : Nat) : Int)).toNat, ?_, fun i hi => ?_⟩
  · have a0 := Int.emod_nonneg ((a.length : Int) + m) (show ((a.length + b.length + 1 : Nat) : Int) ≠ 0 by omega)
    have a1 := Int.emod_lt_of_pos ((a.length : Int) + m) (show (0 : Int) < ((a.length + b.length + 1 : Nat) : Int) by omega)
    have hl : (a ++ c :: b).length = a.length + b.length + 1 := by simp; omega
    rw [rot_len, hl]
    omega
  · rw [rot_len] at hi
    exact rot_diff a b c m (a.length + b.length + 1) rfl (by simpa [Nat.add_assoc] using hi)
theorem filter_one {α : Type} {f : α → Bool} : ∀ {l : List α} {p : Nat}, p < l.length → (∀ i x, l[i]? = some x → (f x = true ↔ i = p)) → (l.filter f).length = 1
  | [], p, h, _ => by simp at h
  | a :: l, 0, _, h => by
    have h0 : f a = true := (h 0 a rfl).mpr rfl
    have hr : l.filter f = [] := by
      rw [List.filter_eq_nil_iff]
      intro x hx
      obtain ⟨i, hi⟩ := List.mem_iff_getElem?.mp hx
      have := h (i + 1) x (by simpa using hi)
      intro e
      have := this.mp e
      omega
    rw [List.filter_cons_of_pos h0, hr]
    rfl
  | a :: l, p + 1, hp, h => by
    have h0 : ¬ f a = true := fun e => by have := (h 0 a rfl).mp e; omega
    rw [List.filter_cons_of_neg h0]
    exact filter_one (by simpa using hp) fun i x hx => by
      have := h (i + 1) x (by simpa using hx)
      rw [this]
      omega
/-- two signs unlike -/
def unl : D → Bool | .tup [a, b] => !D.eqb a b | _ => false
theorem zip_sgn {x y : List Bool} (i : Nat) (z : D) (h : (zipD (x.map sgn) (y.map sgn))[i]? = some z) : ∃ a b, x[i]? = some a ∧ y[i]? = some b ∧ z = .tup [sgn a, sgn b] := by
  have hi : i < (zipD (x.map sgn) (y.map sgn)).length := (List.getElem?_eq_some_iff.mp h).1
  rw [zipD_length, List.length_map, List.length_map] at hi
  have h1 : x[i]? = some x[i] := List.getElem?_eq_getElem (by omega)
  have h2 : y[i]? = some y[i] := List.getElem?_eq_getElem (by omega)
  have := zipD_at (x.map sgn) (y.map sgn) i (sgn x[i]) (sgn y[i]) (by rw [List.getElem?_map, h1]; rfl) (by rw [List.getElem?_map, h2]; rfl)
  rw [this] at h
  exact ⟨_, _, h1, h2, (Option.some.inj h).symm⟩
theorem zip_one {x y : List Bool} (h : One1 x y) : ((zipD (x.map sgn) (y.map sgn)).filter unl).length = 1 := by
  obtain ⟨hl, p, hp, hd⟩ := one_count h
  have hz : (zipD (x.map sgn) (y.map sgn)).length = x.length := by rw [zipD_length, List.length_map, List.length_map]; omega
  refine filter_one (p := p) (by rw [hz]; exact hp) fun i z hzi => ?_
  have hi : i < x.length := by rw [← hz]; exact (List.getElem?_eq_some_iff.mp hzi).1
  obtain ⟨a, b, ha, hb, rfl⟩ := zip_sgn i z hzi
  have e : unl (.tup [sgn a, sgn b]) = !(a == b) := by
    show (!(D.eqb (sgn a) (sgn b))) = _
    cases a <;> cases b <;> decide +kernel
  have := hd i hi
  rw [ha, hb, Option.some.injEq] at this
  rw [e]
  cases a <;> cases b <;> simp at this ⊢ <;> omega
end L2.DL

set_option Elab.async false
set_option linter.all false
set_option autoImplicit false
set_option maxRecDepth 100000
set_option maxHeartbeats 4000000
/-! Words swapped; states by posts. -/
namespace L2.DL
open PySem PySem.Spec
section
variable {σ : Lot}
theorem swap_none {w : List Bool} (h : σ w = false) (hu : underH σ w = none) : swapH σ w = w := by
  unfold swapH
  rw [h, hu]
  rfl
theorem swap_yes {w : List Bool} (h : σ w = true) : swapH σ w = pull3 w := by
  unfold swapH
  rw [h]
  rfl
theorem swap_under {w u : List Bool} (hσ : LotOk σ) (hu : underH σ w = some u) : swapH σ w = u := by
  have hq := (under_some hu).1
  have : σ w = false := by
    cases z : σ w with
    | false => rfl
    | true => have := isQ_P (hσ _ z); rw [this] at hq; cases hq
  unfold swapH
  rw [this, hu]
  rfl
theorem swap_swap (hσ : LotOk σ) (w : List Bool) : swapH σ (swapH σ w) = w := by
  cases h : σ w with
  | true =>
    rw [swap_yes h]
    exact swap_under hσ (under_pull hσ h)
  | false =>
    cases hu : underH σ w with
    | none => rw [swap_none h hu, swap_none h hu]
    | some u =>
      obtain ⟨q1, q2, q3⟩ := under_some hu
      rw [swap_under hσ hu, swap_yes q2, q3, pull_unpull q1]
theorem swap_ok (hσ : LotOk σ) {w : List Bool} (hd : dy 0 w = true) (hn : w ≠ []) : dy 0 (swapH σ w) = true ∧ swapH σ w ≠ [] ∧ (swapH σ w).length = w.length := by
  cases h : σ w with
  | true =>
    have hp := hσ _ h
    rw [swap_yes h]
    exact ⟨dy_pull hp hd, by simp [pull3], len_pull hp⟩
  | false =>
    cases hu : underH σ w with
    | none => rw [swap_none h hu]; exact ⟨hd, hn, rfl⟩
    | some u =>
      obtain ⟨q1, q2, q3⟩ := under_some hu
      rw [swap_under hσ hu, q3]
      exact ⟨dy_unpull q1 hd, by simp [unpull3], len_unpull q1⟩
/-- a word swapped is no word of the lot where nothing lies under the word -/
theorem swap_not (hσ : LotOk σ) {w : List Bool} (hu : underH σ w = none) : σ (swapH σ w) = false := by
  cases h : σ w with
  | true => rw [swap_yes h]; exact not_pull hσ w
  | false => rw [swap_none h hu]; exact h
theorem under_len (hσ : LotOk σ) {w u : List Bool} (hd : dy 0 w = true) (hu : underH σ w = some u) : 4 ≤ w.length ∧ dy 0 u = true ∧ u ≠ [] ∧ u.length = w.length := by
  obtain ⟨q1, q2, q3⟩ := under_some hu
  have hx : dy 0 u = true := by rw [q3]; exact dy_unpull q1 hd
  have l4 := lot_len (hσ _ q2) hx
  have hl : u.length = w.length := by rw [q3, len_unpull q1]
  exact ⟨by omega, hx, by rw [q3]; simp [unpull3], hl⟩
theorem tz_all {w : List Bool} (hd : dy 0 w = true) (hn : w ≠ []) : turnZ w ((w.length : Nat) : Int) = w := by
  rw [turnZ_nat hd hn, turn_all hd]
/-- a state of the second kind -/
theorem at_plain {w : List Bool} {o : Int} (h0 : o ≠ 0) (hu : (if o < 6 then underH σ w else none) = none) : atH σ w o = (turnZ (swapH σ w) ((o + o % 2) / 2), ((o + o % 2) / 2) % ((w.length + 1 : Nat) : Int), o % 2 == 1) := by
  unfold atH
  rw [if_neg h0, hu]
theorem at_under {w u : List Bool} {o : Int} (h0 : o ≠ 0) (hu : (if o < 6 then underH σ w else none) = some u) : atH σ w o = (turnZ u ((6 + o % 2 - o) / 2), (6 + o % 2 - o) / 2, o % 2 == 1) := by
  unfold atH
  rw [if_neg h0, hu]
theorem at_zero {w : List Bool} : atH σ w 0 = (w, 0, false) := by
  unfold atH
  rw [if_pos rfl]
theorem odd_b (o : Int) (h : o % 2 = 1) : (o % 2 == 1) = true := by rw [h]; rfl
theorem even_b (o : Int) (h : o % 2 = 0) : (o % 2 == 1) = false := by rw [h]; rfl
theorem next_str {w f : List Bool} {k : Int} {b : Bool} (h : stretchH σ w k b = some f) : nextH σ w k b = if b then (if k = 1 then (turnZ f 3, 3, false) else (turnZ w (-1), k - 1, false)) else (w, k, true) := by
  unfold nextH
  rw [h]
theorem next_far {w : List Bool} {k : Int} {b : Bool} (h : stretchH σ w k b = none) (hk : ¬ (k = 0 ∧ b = false)) : nextH σ w k b = if b then (w, k, false) else (turnZ w 1, (k + 1) % ((w.length + 1 : Nat) : Int), true) := by
  unfold nextH
  rw [h]
  simp only []
  rw [if_neg hk]
theorem str_of {w f : List Bool} {k : Int} {b : Bool} (e : turnZ w (-k) = f) (h1 : 1 ≤ k) (h3 : k ≤ 3) (hb : k ≠ 3 ∨ b = true) (hf : σ f = true) : stretchH σ w k b = some f := by
  unfold stretchH
  rw [e, if_pos ⟨h1, h3, hb, hf⟩]
theorem str_no {w f : List Bool} {k : Int} {b : Bool} (e : turnZ w (-k) = f) (h : ¬ (1 ≤ k ∧ k ≤ 3 ∧ (k ≠ 3 ∨ b = true) ∧ σ f = true)) : stretchH σ w k b = none := by
  unfold stretchH
  rw [e, if_neg h]
/-- one state on, within a word's states -/
theorem next_at (hσ : LotOk σ) {w : List Bool} (hd : dy 0 w = true) (hn : w ≠ []) {o : Int} (h0 : 0 ≤ o) (h1 : o + 1 < 2 * ((w.length + 1 : Nat) : Int)) : nextH σ (atH σ w o).1 (atH σ w o).2.1 (atH σ w o).2.2 = atH σ w (o + 1) := by
  have hO : HOK w 0 := ⟨hd, hn, by decide, by omega⟩
  have l2 := hO.len2
  obtain ⟨s1, s2, s3⟩ := swap_ok hσ hd hn
  have hS : HOK (swapH σ w) 0 := ⟨s1, s2, by decide, by omega⟩
  by_cases o0 : o = 0
  · subst o0
    rw [at_zero]
    have es : stretchH σ w 0 false = none := by
      unfold stretchH
      rw [if_neg (fun z => by omega)]
    unfold nextH
    rw [es]
    simp only [and_self, if_true]
    cases hu : underH σ w with
    | some u =>
      rw [at_under (by decide) (by rw [if_pos (by decide)]; exact hu)]
      rfl
    | none =>
      rw [at_plain (by decide) (by rw [if_pos (by decide)]; exact hu)]
      have e1 : (0 + 1 + (0 + 1) % 2) / 2 = (1 : Int) := by decide
      have e2 : (1 : Int) % ((w.length + 1 : Nat) : Int) = 1 := Int.emod_eq_of_lt (by decide) (by omega)
      have e3 : (if σ w = true then pull3 w else w) = swapH σ w := by
        cases z : σ w with
        | true => rw [swap_yes z]; rfl
        | false => rw [swap_none z hu]; rfl
      rw [e1, e2, e3]
      rfl
  cases hu : (if o < 6 then underH σ w else none) with
  | some u =>
    have h6 : o < 6 := by
      by_cases q : o < 6
      · exact q
      · rw [if_neg q] at hu; cases hu
    rw [if_pos h6] at hu
    obtain ⟨l4, u1, u2, u3⟩ := under_len hσ hd hu
    have hq := (under_some hu).2.1
    have hU : HOK u 0 := ⟨u1, u2, by decide, by omega⟩
    have esw := swap_under hσ hu
    rw [at_under o0 (by rw [if_pos h6]; exact hu)]
    have c5 : o = 1 ∨ o = 2 ∨ o = 3 ∨ o = 4 ∨ o = 5 := by omega
    have nxt : ∀ o', o' ≠ 0 → o' < 6 → atH σ w o' = (turnZ u ((6 + o' % 2 - o') / 2), (6 + o' % 2 - o') / 2, o' % 2 == 1) := fun o' a b => at_under a (by rw [if_pos b]; exact hu)
    rcases c5 with rfl | rfl | rfl | rfl | rfl
    · rw [nxt _ (by decide) (by decide)]
      show nextH σ (turnZ u 3) 3 true = (turnZ u 2, 2, false)
      rw [next_str (str_of (tz_back hU 3 (-3) rfl) (by decide) (by decide) (.inr rfl) hq), tz_tz hU 3 (-1) 2 rfl]
      rfl
    · rw [nxt _ (by decide) (by decide)]
      show nextH σ (turnZ u 2) 2 false = (turnZ u 2, 2, true)
      rw [next_str (str_of (tz_back hU 2 (-2) rfl) (by decide) (by decide) (.inl (by decide)) hq)]
      rfl
    · rw [nxt _ (by decide) (by decide)]
      show nextH σ (turnZ u 2) 2 true = (turnZ u 1, 1, false)
      rw [next_str (str_of (tz_back hU 2 (-2) rfl) (by decide) (by decide) (.inr rfl) hq), tz_tz hU 2 (-1) 1 rfl]
      rfl
    · rw [nxt _ (by decide) (by decide)]
      show nextH σ (turnZ u 1) 1 false = (turnZ u 1, 1, true)
      rw [next_str (str_of (tz_back hU 1 (-1) rfl) (by decide) (by decide) (.inl (by decide)) hq)]
      rfl
    · rw [at_plain (by decide) (by rw [if_neg (by decide)])]
      show nextH σ (turnZ u 1) 1 true = _
      rw [next_str (str_of (tz_back hU 1 (-1) rfl) (by decide) (by decide) (.inr rfl) hq)]
      have e1 : (5 + 1 + (5 + 1) % 2) / 2 = (3 : Int) := by decide
      have e2 : (3 : Int) % ((w.length + 1 : Nat) : Int) = 3 := Int.emod_eq_of_lt (by decide) (by omega)
      rw [e1, e2, esw]
      rfl
  | none =>
    rw [at_plain o0 hu]
    generalize hs : (o + o % 2) / 2 = s
    have hsn : s < ((w.length + 1 : Nat) : Int) := by omega
    have hs0 : 1 ≤ s := by omega
    have em : s % ((w.length + 1 : Nat) : Int) = s := Int.emod_eq_of_lt (by omega) hsn
    rw [em]
    show nextH σ (turnZ (swapH σ w) s) s (o % 2 == 1) = _
    have eb : turnZ (turnZ (swapH σ w) s) (-s) = swapH σ w := tz_back hS s (-s) (by omega)
    -- no stretch here
    have hstr : stretchH σ (turnZ (swapH σ w) s) s (o % 2 == 1) = none := by
      refine str_no eb fun z => ?_
      obtain ⟨z1, z3, zb, zf⟩ := z
      by_cases h6 : o < 6
      · rw [if_pos h6] at hu
        rw [swap_not hσ hu] at zf
        cases zf
      · have : o = 6 := by omega
        subst this
        have : s = 3 := by omega
        rcases zb with y | y
        · exact y this
        · cases y
    have hnu : (if o + 1 < 6 then underH σ w else none) = none := by
      by_cases h6 : o + 1 < 6
      · rw [if_pos h6]
        rw [if_pos (by omega)] at hu
        exact hu
      · rw [if_neg h6]
    rw [next_far hstr (fun z => by omega), at_plain (by omega) hnu]
    by_cases od : o % 2 = 1
    · rw [odd_b o od, if_pos rfl, even_b (o + 1) (by omega)]
      have e1 : (o + 1 + (o + 1) % 2) / 2 = s := by omega
      rw [e1, em]
    · rw [even_b o (by omega), if_neg (by decide), odd_b (o + 1) (by omega), tz_tz hS s 1 (s + 1) rfl, tz_len hS, s3]
      have e1 : (o + 1 + (o + 1) % 2) / 2 = s + 1 := by omega
      rw [e1]
/-- from the last of a word's states to the first of the word behind -/
theorem next_last (hσ : LotOk σ) {w : List Bool} (hd : dy 0 w = true) (hn : w ≠ []) : nextH σ (atH σ w (2 * ((w.length + 1 : Nat) : Int) - 1)).1 (atH σ w (2 * ((w.length + 1 : Nat) : Int) - 1)).2.1 (atH σ w (2 * ((w.length + 1 : Nat) : Int) - 1)).2.2 = (turnZ (swapH σ w) 1, 0, false) := by
  have hO : HOK w 0 := ⟨hd, hn, by decide, by omega⟩
  have l2 := hO.len2
  obtain ⟨s1, s2, s3⟩ := swap_ok hσ hd hn
  have hS : HOK (swapH σ w) 0 := ⟨s1, s2, by decide, by omega⟩
  have hu : (if 2 * ((w.length + 1 : Nat) : Int) - 1 < 6 then underH σ w else none) = none := by
    by_cases q : 2 * ((w.length + 1 : Nat) : Int) - 1 < 6
    · rw [if_pos q]
      cases z : underH σ w with
      | none => rfl
      | some u =>
        have := (under_len hσ hd z).1
        omega
    · rw [if_neg q]
  rw [at_plain (by omega) hu]
  have e1 : (2 * ((w.length + 1 : Nat) : Int) - 1 + (2 * ((w.length + 1 : Nat) : Int) - 1) % 2) / 2 = ((w.length + 1 : Nat) : Int) := by omega
  rw [e1, Int.emod_self, odd_b _ (by omega)]
  show nextH σ (turnZ (swapH σ w) ((w.length + 1 : Nat) : Int)) 0 true = _
  have es : stretchH σ (turnZ (swapH σ w) ((w.length + 1 : Nat) : Int)) 0 true = none := by
    unfold stretchH
    rw [if_neg (fun z => by omega)]
  rw [next_far es (fun z => by cases z.2), if_pos rfl]
  have e2 : turnZ (swapH σ w) ((w.length + 1 : Nat) : Int) = turnZ (swapH σ w) 1 := by
    have := tz_all s1 s2
    rw [s3] at this
    have h3 := turnZ_add s1 s2 ((w.length : Nat) : Int) 1
    rw [this] at h3
    rw [h3]
    rfl
  rw [e2]
theorem last_at (hσ : LotOk σ) {w : List Bool} (hd : dy 0 w = true) (hn : w ≠ []) : atH σ w (2 * ((w.length + 1 : Nat) : Int) - 1) = (turnZ (swapH σ w) 1, 0, true) := by
  have hO : HOK w 0 := ⟨hd, hn, by decide, by omega⟩
  have l2 := hO.len2
  obtain ⟨s1, s2, s3⟩ := swap_ok hσ hd hn
  have hu : (if 2 * ((w.length + 1 : Nat) : Int) - 1 < 6 then underH σ w else none) = none := by
    by_cases q : 2 * ((w.length + 1 : Nat) : Int) - 1 < 6
    · rw [if_pos q]
      cases z : underH σ w with
      | none => rfl
      | some u =>
        have := (under_len hσ hd z).1
        omega
    · rw [if_neg q]
  rw [at_plain (by omega) hu]
  have e1 : (2 * ((w.length + 1 : Nat) : Int) - 1 + (2 * ((w.length + 1 : Nat) : Int) - 1) % 2) / 2 = ((w.length + 1 : Nat) : Int) := by omega
  rw [e1, Int.emod_self, odd_b _ (by omega)]
  have e2 : turnZ (swapH σ w) ((w.length + 1 : Nat) : Int) = turnZ (swapH σ w) 1 := by
    have := tz_all s1 s2
    rw [s3] at this
    have h3 := turnZ_add s1 s2 ((w.length : Nat) : Int) 1
    rw [this] at h3
    rw [h3]
    rfl
  rw [e2]
/-- its post is told back -/
theorem post_at (hσ : LotOk σ) {w : List Bool} (hd : dy 0 w = true) (hn : w ≠ []) {o : Int} (h0 : 0 ≤ o) (h1 : o < 2 * ((w.length + 1 : Nat) : Int)) : postH σ (atH σ w o).1 (atH σ w o).2.1 (atH σ w o).2.2 = (w, o) := by
  have hO : HOK w 0 := ⟨hd, hn, by decide, by omega⟩
  have l2 := hO.len2
  obtain ⟨s1, s2, s3⟩ := swap_ok hσ hd hn
  have hS : HOK (swapH σ w) 0 := ⟨s1, s2, by decide, by omega⟩
  by_cases o0 : o = 0
  · subst o0
    rw [at_zero]
    rfl
  by_cases ol : o = 2 * ((w.length + 1 : Nat) : Int) - 1
  · rw [ol, last_at hσ hd hn]
    unfold postH
    rw [if_pos rfl, if_pos rfl]
    show (swapH σ (turnZ (turnZ (swapH σ w) 1) (-1)), 2 * (((turnZ (swapH σ w) 1).length + 1 : Nat) : Int) - 1) = _
    rw [tz_back hS 1 (-1) rfl, swap_swap hσ, tz_len hS, s3]
  cases hu : (if o < 6 then underH σ w else none) with
  | some u =>
    have h6 : o < 6 := by
      by_cases q : o < 6
      · exact q
      · rw [if_neg q] at hu; cases hu
    have hu' := hu
    rw [if_pos h6] at hu
    obtain ⟨l4, u1, u2, u3⟩ := under_len hσ hd hu
    obtain ⟨q1, hq, q3⟩ := under_some hu
    have hU : HOK u 0 := ⟨u1, u2, by decide, by omega⟩
    rw [at_under o0 hu']
    generalize hs : (6 + o % 2 - o) / 2 = s
    have es : stretchH σ (turnZ u s) s (o % 2 == 1) = some u := by
      refine str_of (tz_back hU s (-s) (by omega)) (by omega) (by omega) ?_ hq
      by_cases od : o % 2 = 1
      · exact .inr (odd_b o od)
      · exact .inl (by omega)
    unfold postH
    simp only []
    rw [if_neg (by omega), es]
    have ep : pull3 u = w := by rw [q3, pull_unpull q1]
    simp only []
    rw [ep]
    by_cases od : o % 2 = 1
    · rw [odd_b o od, if_pos rfl]
      exact Prod.ext rfl (by show 6 + 1 - 2 * s = o; omega)
    · rw [even_b o (by omega), if_neg (by decide)]
      exact Prod.ext rfl (by show 6 + 0 - 2 * s = o; omega)
  | none =>
    rw [at_plain o0 hu]
    generalize hs : (o + o % 2) / 2 = s
    have hsn : s < ((w.length + 1 : Nat) : Int) := by omega
    have hs0 : 1 ≤ s := by omega
    have em : s % ((w.length + 1 : Nat) : Int) = s := Int.emod_eq_of_lt (by omega) hsn
    rw [em]
    have eb : turnZ (turnZ (swapH σ w) s) (-s) = swapH σ w := tz_back hS s (-s) (by omega)
    have hstr : stretchH σ (turnZ (swapH σ w) s) s (o % 2 == 1) = none := by
      refine str_no eb fun z => ?_
      obtain ⟨z1, z3, zb, zf⟩ := z
      by_cases h6 : o < 6
      · rw [if_pos h6] at hu
        rw [swap_not hσ hu] at zf
        cases zf
      · have : o = 6 := by omega
        subst this
        have : s = 3 := by omega
        rcases zb with y | y
        · exact y this
        · cases y
    unfold postH
    simp only []
    rw [if_neg (by omega), hstr]
    simp only []
    rw [eb, swap_swap hσ]
    by_cases od : o % 2 = 1
    · rw [odd_b o od, if_pos rfl]
      exact Prod.ext rfl (by show 2 * s - 1 = o; omega)
    · rw [even_b o (by omega), if_neg (by decide)]
      exact Prod.ext rfl (by show 2 * s - 0 = o; omega)
theorem at_ok (hσ : LotOk σ) {w : List Bool} (hd : dy 0 w = true) (hn : w ≠ []) {o : Int} (h0 : 0 ≤ o) (h1 : o < 2 * ((w.length + 1 : Nat) : Int)) : HOK (atH σ w o).1 (atH σ w o).2.1 ∧ (atH σ w o).1.length = w.length := by
  have hO : HOK w 0 := ⟨hd, hn, by decide, by omega⟩
  have l2 := hO.len2
  obtain ⟨s1, s2, s3⟩ := swap_ok hσ hd hn
  have hS : HOK (swapH σ w) 0 := ⟨s1, s2, by decide, by omega⟩
  by_cases o0 : o = 0
  · subst o0
    rw [at_zero]
    exact ⟨hO, rfl⟩
  cases hu : (if o < 6 then underH σ w else none) with
  | some u =>
    have h6 : o < 6 := by
      by_cases q : o < 6
      · exact q
      · rw [if_neg q] at hu; cases hu
    have hu' := hu
    rw [if_pos h6] at hu
    obtain ⟨l4, u1, u2, u3⟩ := under_len hσ hd hu
    have hU : HOK u 0 := ⟨u1, u2, by decide, by omega⟩
    rw [at_under o0 hu']
    have g : HOK (turnZ u ((6 + o % 2 - o) / 2)) ((6 + o % 2 - o) / 2) := hU.tz _ (by omega) (by omega)
    exact ⟨g, by show (turnZ u ((6 + o % 2 - o) / 2)).length = _; rw [tz_len hU, u3]⟩
  | none =>
    rw [at_plain o0 hu]
    have a0 := Int.emod_nonneg ((o + o % 2) / 2) (show ((w.length + 1 : Nat) : Int) ≠ 0 by omega)
    have a1 := Int.emod_lt_of_pos ((o + o % 2) / 2) (show (0 : Int) < ((w.length + 1 : Nat) : Int) by omega)
    have g : HOK (turnZ (swapH σ w) ((o + o % 2) / 2)) (((o + o % 2) / 2) % ((w.length + 1 : Nat) : Int)) := hS.tz _ a0 (by omega)
    exact ⟨g, by show (turnZ (swapH σ w) ((o + o % 2) / 2)).length = _; rw [tz_len hS, s3]⟩
theorem post_ok (hσ : LotOk σ) {w : List Bool} {k : Int} {b : Bool} (h : HOK w k) : dy 0 (postH σ w k b).1 = true ∧ (postH σ w k b).1 ≠ [] ∧ (postH σ w k b).1.length = w.length ∧ 0 ≤ (postH σ w k b).2 ∧ (postH σ w k b).2 < 2 * ((w.length + 1 : Nat) : Int) := by
  have l2 := h.len2
  have hlo := h.lo
  have hhi := h.hi
  unfold postH
  by_cases k0 : k = 0
  · rw [if_pos k0]
    cases b with
    | true =>
      rw [if_pos rfl]
      obtain ⟨d1, d2, d3⟩ := turnZ_dy h.d h.n (-1)
      obtain ⟨s1, s2, s3⟩ := swap_ok hσ d1 d2
      exact ⟨s1, s2, by show (swapH σ (turnZ w (-1))).length = _; omega, by show 0 ≤ 2 * ((w.length + 1 : Nat) : Int) - 1; omega, by show 2 * ((w.length + 1 : Nat) : Int) - 1 < _; omega⟩
    | false => exact ⟨h.d, h.n, rfl, (by show (0 : Int) ≤ 0; decide), by show (0 : Int) < _; omega⟩
  · rw [if_neg k0]
    obtain ⟨d1, d2, d3⟩ := turnZ_dy h.d h.n (-k)
    cases hs : stretchH σ w k b with
    | some f =>
      obtain ⟨k1, k3, kb, hf, rfl⟩ := stretch_some hs
      have hp := hσ _ hf
      have l4 := lot_len hp d1
      refine ⟨dy_pull hp d1, by simp [pull3], by show (pull3 (turnZ w (-k))).length = _; rw [len_pull hp, d3], ?_, ?_⟩
      · show 0 ≤ 6 + (if b then 1 else 0) - 2 * k
        split <;> omega
      · show 6 + (if b then 1 else 0) - 2 * k < _
        split <;> omega
    | none =>
      obtain ⟨s1, s2, s3⟩ := swap_ok hσ d1 d2
      refine ⟨s1, s2, by show (swapH σ (turnZ w (-k))).length = _; omega, ?_, ?_⟩
      · show 0 ≤ 2 * k - (if b then 1 else 0)
        split <;> omega
      · show 2 * k - (if b then 1 else 0) < _
        split <;> omega
/-- and back again -/
theorem at_post (hσ : LotOk σ) {w : List Bool} {k : Int} {b : Bool} (h : HOK w k) : atH σ (postH σ w k b).1 (postH σ w k b).2 = (w, k, b) := by
  have l2 := h.len2
  have hlo := h.lo
  have hhi := h.hi
  unfold postH
  by_cases k0 : k = 0
  · rw [if_pos k0]
    subst k0
    cases b with
    | false => exact at_zero
    | true =>
      rw [if_pos rfl]
      obtain ⟨d1, d2, d3⟩ := turnZ_dy h.d h.n (-1)
      obtain ⟨s1, s2, s3⟩ := swap_ok hσ d1 d2
      have := last_at hσ s1 s2
      rw [s3, d3, swap_swap hσ, tz_back h (-1) 1 rfl] at this
      exact this
  · rw [if_neg k0]
    obtain ⟨d1, d2, d3⟩ := turnZ_dy h.d h.n (-k)
    have hb := tz_back h (-k) k (by omega)
    cases hs : stretchH σ w k b with
    | some f =>
      obtain ⟨k1, k3, kb, hf, rfl⟩ := stretch_some hs
      simp only []
      have hu := under_pull hσ hf
      cases b with
      | true =>
        rw [if_pos rfl, at_under (by omega) (by rw [if_pos (by omega)]; exact hu)]
        have e1 : (6 + (6 + 1 - 2 * k) % 2 - (6 + 1 - 2 * k)) / 2 = k := by omega
        rw [e1, hb, odd_b _ (by omega)]
      | false =>
        have k2 : k ≤ 2 := by rcases kb with y | y; omega; cases y
        rw [if_neg (by decide), at_under (by omega) (by rw [if_pos (by omega)]; exact hu)]
        have e1 : (6 + (6 + 0 - 2 * k) % 2 - (6 + 0 - 2 * k)) / 2 = k := by omega
        rw [e1, hb, even_b _ (by omega)]
    | none =>
      have hs' := stretch_none hs
      simp only []
      obtain ⟨s1, s2, s3⟩ := swap_ok hσ d1 d2
      have em : k % ((w.length + 1 : Nat) : Int) = k := Int.emod_eq_of_lt hlo (by omega)
      have noU : ∀ o : Int, (o < 6 → 1 ≤ k ∧ k ≤ 3 ∧ (k ≠ 3 ∨ b = true)) → (if o < 6 then underH σ (swapH σ (turnZ w (-k))) else none) = none := fun o ho => by
        by_cases q : o < 6
        · rw [if_pos q]
          cases z : underH σ (swapH σ (turnZ w (-k))) with
          | none => rfl
          | some u =>
            obtain ⟨z1, z2, z3⟩ := under_some z
            have := swap_under hσ z
            rw [swap_swap hσ] at this
            obtain ⟨y1, y3, yb⟩ := ho q
            exact absurd ⟨y1, y3, yb, by rw [this]; exact z2⟩ hs'
        · rw [if_neg q]
      cases b with
      | true =>
        rw [if_pos rfl, at_plain (by omega) (noU _ fun z => ⟨by omega, by omega, .inr rfl⟩)]
        have e1 : (2 * k - 1 + (2 * k - 1) % 2) / 2 = k := by omega
        rw [e1, s3, d3, swap_swap hσ, hb, em, odd_b _ (by omega)]
      | false =>
        rw [if_neg (by decide), at_plain (by omega) (noU _ fun z => ⟨by omega, by omega, .inl (by omega)⟩)]
        have e1 : (2 * k - 0 + (2 * k - 0) % 2) / 2 = k := by omega
        rw [e1, s3, d3, swap_swap hσ, hb, em, even_b _ (by omega)]
end
end L2.DL

set_option Elab.async false
set_option linter.all false
set_option autoImplicit false
set_option maxRecDepth 100000
set_option maxHeartbeats 4000000
/-! divmod, max of two ints. -/
namespace L2.DL
open PySem PySem.Spec PyProof.Rows
section
variable {X : Cx} {F : Hp} {γ : Gm} {pos : Pos}
def maxI2 : DA := fun ds P => ∃ i j : Int, ds = [.int i, .int j] ∧ P (.int (if j > i then j else i))
theorem maxI2_i {i j : Int} {P : D → Prop} : maxI2 [.int i, .int j] P = P (.int (if j > i then j else i)) := by
  apply propext
  constructor
  · rintro ⟨a, b, e, q⟩
    simp only [List.cons.injEq, D.int.injEq, and_true] at e
    obtain ⟨rfl, rfl⟩ := e
    exact q
  · exact fun q => ⟨i, j, rfl, q⟩
theorem b_max2 (hc : X.calm = true) : CallD X F γ (.builtin "max") maxI2 := by
  intro H0 H σ env c xs ds k Q R h hf hk
  obtain ⟨i, j, rfl, q⟩ := hf
  cases h with
  | cons h1 h2 =>
    cases h1
    cases h2 with
    | cons h3 h4 =>
      cases h3
      cases h4
      exact ⟨_, call_max2 hc, i, j, rfl, hk _ _ _ _ q (Same.refl _) R (.int _)⟩
def dvmD : DA := fun ds P => ∃ i j : Int, ds = [.int i, .int j] ∧ (0 < j ∧ j < 1073741824) ∧ P (.tup [.int (i / j), .int (i % j)])
theorem dvmD_i {i j : Int} {P : D → Prop} : dvmD [.int i, .int j] P = ((0 < j ∧ j < 1073741824) ∧ P (.tup [.int (i / j), .int (i % j)])) := by
  apply propext
  constructor
  · rintro ⟨a, b, e, q⟩
    simp only [List.cons.injEq, D.int.injEq, and_true] at e
    obtain ⟨rfl, rfl⟩ := e
    exact q
  · exact fun q => ⟨i, j, rfl, q⟩
theorem b_divmod : CallD X F γ (.builtin "divmod") dvmD := by
  intro H0 H σ env c xs ds k Q R h hf hk
  obtain ⟨i, j, rfl, hj, q⟩ := hf
  cases h with
  | cons h1 h2 =>
    cases h1
    cases h2 with
    | cons h3 h4 =>
      cases h3
      cases h4
      exact ⟨_, call_divmod, i, j, rfl, hj, fun p hp => hk _ _ _ _ q (Same.new (R.core.sub.free hp)) (R.alloc hp) (.tup upd_same (.cons (.int _) (.cons (.int _) .nil)))⟩
end
end L2.DL

set_option Elab.async false
set_option linter.all false
set_option autoImplicit false
set_option maxRecDepth 100000
set_option maxHeartbeats 4000000
/-! Homes gone along the round. -/
namespace L2.DL
open PySem PySem.Spec
def nxH (σ : Lot) (h : HM) : HM := nextH σ h.1 h.2.1 h.2.2
def bxH (σ : Lot) (h : HM) : HM := beforeH σ h.1 h.2.1 h.2.2
/-- a home of a word of l signs -/
structure GH (l : Nat) (h : HM) : Prop where
  ok : HOK h.1 h.2.1
  len : h.1.length = l
section
variable {σ : Lot} {l : Nat} {h : HM}
theorem GH.nx (hσ : LotOk σ) (g : GH l h) : GH l (nxH σ h) := by
  obtain ⟨a, b⟩ := next_ok hσ (b := h.2.2) g.ok
  exact ⟨a, b.trans g.len⟩
theorem GH.bx (hσ : LotOk σ) (g : GH l h) : GH l (bxH σ h) := by
  obtain ⟨a, b⟩ := before_ok hσ (b := h.2.2) g.ok
  exact ⟨a, b.trans g.len⟩
theorem bx_nx (hσ : LotOk σ) (g : GH l h) : bxH σ (nxH σ h) = h := before_next hσ (b := h.2.2) g.ok
theorem nx_bx (hσ : LotOk σ) (g : GH l h) : nxH σ (bxH σ h) = h := next_before hσ (b := h.2.2) g.ok
theorem GH.iter (hσ : LotOk σ) (g : GH l h) : ∀ n, GH l (iter (nxH σ) n h)
  | 0 => g
  | n + 1 => by rw [iter_succ]; exact (GH.iter hσ g n).nx hσ
theorem GH.iterB (hσ : LotOk σ) (g : GH l h) : ∀ n, GH l (DL.iter (bxH σ) n h)
  | 0 => g
  | n + 1 => by rw [iter_succ]; exact (GH.iterB hσ g n).bx hσ
theorem GH.wok (g : GH l h) (h2 : l ≤ 400) : wok h.1 = true := wok_iff.mpr ⟨g.ok.d, by rw [g.len]; have := g.ok.len2; rw [g.len] at this; exact this, by rw [g.len]; exact h2⟩
theorem at_gh (hσ : LotOk σ) {w : List Bool} (hd : dy 0 w = true) (hn : w ≠ []) {o : Int} (h0 : 0 ≤ o) (h1 : o < 2 * ((w.length + 1 : Nat) : Int)) : GH w.length (atH σ w o) := by
  obtain ⟨a, b⟩ := at_ok hσ hd hn h0 h1
  exact ⟨a, b⟩
theorem iter_at (hσ : LotOk σ) {w : List Bool} (hd : dy 0 w = true) (hn : w ≠ []) : ∀ i : Nat, (i : Int) < 2 * ((w.length + 1 : Nat) : Int) → DL.iter (nxH σ) i (w, 0, false) = atH σ w (i : Int)
  | 0, _ => at_zero.symm
  | i + 1, hi => by
    rw [iter_succ, iter_at hσ hd hn i (by omega)]
    have := next_at hσ hd hn (o := (i : Int)) (by omega) (by omega)
    rw [show ((i + 1 : Nat) : Int) = (i : Int) + 1 by omega]
    exact this
theorem iter_round (hσ : LotOk σ) {w : List Bool} (hd : dy 0 w = true) (hn : w ≠ []) : DL.iter (nxH σ) (2 * (w.length + 1)) (w, 0, false) = (turnZ (swapH σ w) 1, 0, false) := by
  obtain ⟨m, hm⟩ : ∃ m, 2 * (w.length + 1) = m + 1 := ⟨2 * w.length + 1, by omega⟩
  rw [hm, iter_succ, iter_at hσ hd hn m (by omega)]
  have := next_last hσ hd hn
  rw [show 2 * ((w.length + 1 : Nat) : Int) - 1 = (m : Int) by omega] at this
  exact this
theorem post_gh (hσ : LotOk σ) (g : GH l h) : dy 0 (postH σ h.1 h.2.1 h.2.2).1 = true ∧ (postH σ h.1 h.2.1 h.2.2).1 ≠ [] ∧ (postH σ h.1 h.2.1 h.2.2).1.length = l ∧ 0 ≤ (postH σ h.1 h.2.1 h.2.2).2 ∧ (postH σ h.1 h.2.1 h.2.2).2 < 2 * ((l + 1 : Nat) : Int) := by
  have := post_ok hσ (b := h.2.2) g.ok
  rw [g.len] at this
  exact this
end
/-- states of homes, told apart -/
theorem stH_inj {l : Nat} {h h' : HM} (g : GH l h) (g' : GH l h') (e : stH h = stH h') : h = h' := by
  obtain ⟨e1, e2, e3⟩ := st_inj g.ok.d g'.ok.d e
  have a1 := g.ok.lo
  have a2 := g.ok.hi
  have b1 := g'.ok.lo
  have b2 := g'.ok.hi
  have l1 := g.len
  have l2 := g'.len
  rw [Int.emod_eq_of_lt a1 (by omega), Int.emod_eq_of_lt b1 (by omega)] at e2
  exact Prod.ext e1 (Prod.ext e2 e3)
end L2.DL

set_option linter.all false
set_option autoImplicit false
set_option maxRecDepth 100000
namespace L2.DL.k18
open PySem
abbrev N_mk : List Str := ["_law_script", "_law_cell"]
abbrev N_tick : List Str := ["_law_lampshop_here", "_law_many", "_law_rest", "_law_turn", "_law_cell", "_law_mixed"]
def l_tick_6 : WS :=
  wRet (wBin modD (wB1 (one intD) (wCons (wVar 2) wNil)) (wVar 1))
def l_tick_5 : WS :=
  wSeq (fun E env c => oneGx env 0 = true ∧ wGxSet 0 2 (wBin fdivD (wVar 2) (wVar 1)) E env c) l_tick_6
def l_tick_13 : WS :=
  wRet (wBin modD (wB1 (one intD) (wCons (wVar 2) wNil)) (wVar 1))
def l_tick_12 : WS :=
  wSeq (fun E env c => oneGx env 0 = true ∧ wGxSet 0 2 (wBin fdivD (wB1 (one intD) (wCons (wVar 2) wNil)) (wVar 1)) E env c) l_tick_13
def l_tick_16 : WS :=
  wRet (wBin modD (wB1 (one intD) (wCons (wBin fdivD (wVar 5) (wC (.int 64))) wNil)) (wVar 1))
def l_tick_15 : WS :=
  wSeq (wSet 5 (wBin modD (wB1 (one intD) (wCons (wBin powD (wBin addD (wBin addD (wBin mulD (wVar 5) (wBin addD (wBin mulD (wC (.int 2)) (wVar 3)) (wC (.int 4603)))) (wBin mulD (wBin mulD (wC (.int 93151)) (wVar 3)) (wVar 3))) (wC (.int 63029))) (wC (.int 3))) wNil)) (wC (.int 2147483477)))) l_tick_16
def l_tick_14 : WS :=
  wSeq (wSet 5 (wBin modD (wB1 (one intD) (wCons (wBin powD (wBin addD (wBin addD (wBin modD (wB1 (one intD) (wCons (wVar 4) wNil)) (wC (.int 2147483629))) (wBin mulD (wC (.int 63029)) (wVar 3))) (wC (.int 9643))) (wC (.int 5))) wNil)) (wC (.int 2147483543)))) l_tick_15
def l_tick_10 : WS :=
  wSeq (wIfS (wAnd (wB (wBin ltD (wVar 3) (wB1 (one lenD) (wCons (wGx 0 0) wNil)))) (wB (wBin geD (wB1 (one absD) (wCons (wVar 4) wNil)) (wBin powD (wC (.int 10)) (wC (.int 18)))))) (wSeq (wSet 2 (wBin addD (wBin mulD (wC (.int 2)) (wBin subD (wB1 (one absD) (wCons (wVar 4) wNil)) (wBin powD (wC (.int 10)) (wC (.int 18))))) (wB1 (one intD) (wCons (wBin ltD (wVar 4) (wC (.int 0))) wNil)))) l_tick_12) wNext) l_tick_14
def l_tick_9 : WS :=
  wSeq (wSet 4 (wBin ixD (wGx 0 0) (wBin modD (wB1 (one intD) (wCons (wVar 3) wNil)) (wB1 (one lenD) (wCons (wGx 0 0) wNil))))) l_tick_10
def l_tick_8 : WS :=
  wSeq (fun E env c => oneGx env 0 = true ∧ wGxSet 0 1 (wBin addD (wVar 3) (wC (.int 1))) E env c) l_tick_9
def l_tick_7 : WS :=
  wSeq (wSet 3 (wGx 0 1)) l_tick_8
def l_tick_3 : WS :=
  wSeq (wIfS (wB (wBin gtD (wGx 0 2) (wC (.int 0)))) (wSeq (wSet 2 (wB1 (one intD) (wCons (wGx 0 2) wNil))) l_tick_5) wNext) l_tick_7
def b_tick : WS :=
  wOpen 0 (wSeq (wIfS (wB (wBin eqD (wGx 0 0) (wLst wNil))) (wRet (wC (.int 0))) wNext) l_tick_3)
def T_tick : TGa := wG b_tick 4
abbrev N_dial : List Str := ["_law_lampshop_here", "_law_some"]
def b_dial : WS :=
  wRet (wBin ixD (wVar 1) (wCallG 1 T_tick 0 (wCons (wB1 (one lenD) (wCons (wVar 1) wNil)) wNil)))
def T_dial : TGa := wG b_dial 0
abbrev N_law_signs : List Str := ["_law_lampshop_here", "_law_many", "_law_burn", "_law_signs_here", "_law_spot", "_law_at"]
def l_law_signs_6 : WS :=
  wSwap 3 (wVar 4) (wVar 5) (wCons (wIxo 3 (wVar 5)) (wCons (wIxo 3 (wVar 4)) wNil))
def l_law_signs_5 : WS :=
  wSeq (wSet 5 (wCallG 1 T_tick 0 (wCons (wLenO 3) wNil))) l_law_signs_6
def l_law_signs_7 : WS :=
  wFrz 3 (wRet (wMt joinD (wC (.str "")) (wVar 3)))
def l_law_signs_4 : WS :=
  wSeq (wFor (wRng1 (wLenO 3)) (gN 4) l_law_signs_5) l_law_signs_7
def l_law_signs_3 : WS :=
  wSeq (wSetO 3 (wCatO (wBin mulD (wLst (wCons (wC (.str "1")) wNil)) (wB1 minI2 (wCons (wVar 1) (wCons (wVar 2) wNil)))) (wBin mulD (wLst (wCons (wC (.str "0")) wNil)) (wB1 maxI2 (wCons (wC (.int 0)) (wCons (wBin subD (wVar 1) (wVar 2)) wNil)))))) l_law_signs_4
def l_law_signs_2 : WS :=
  wSeq (wSet 2 (wB1 maxI2 (wCons (wC (.int 0)) (wCons (wBin addD (wBin fdivD (wVar 1) (wC (.int 2))) (wCallG 1 T_dial 0 (wCons (wLst (wCons (wC (.int 0)) (wCons (wC (.int 1)) (wCons (wC (.int 0)) (wCons (wC (.int 1)) (wCons (wUn negD (wC (.int 1))) (wCons (wC (.int 2)) wNil))))))) wNil))) wNil)))) l_law_signs_3
def b_law_signs : WS :=
  wSeq (wSet 1 (wCallG 1 T_dial 0 (wCons (wLst (wCons (wC (.int 7)) (wCons (wC (.int 3)) (wCons (wC (.int 5)) (wCons (wC (.int 1)) (wCons (wC (.int 2)) (wCons (wC (.int 4)) (wCons (wC (.int 11)) (wCons (wC (.int 9)) (wCons (wC (.int 13)) (wCons (wC (.int 0)) (wCons (wC (.int 401)) wNil)))))))))))) wNil))) l_law_signs_2
def T_law_signs : TGa := wG b_law_signs 5
abbrev N_law_is_state : List Str := ["_law_value", "_law_sign", "_law_ones"]
def l_law_is_state_4 : WS :=
  wRet (wAndV (wChain leD leD (wC (.int 3)) (wB1 (one lenD) (wCons (wVar 0) wNil)) (wC (.int 401))) (wAndV (wBin eqD (wBin modD (wB1 (one intD) (wCons (wB1 (one lenD) (wCons (wVar 0) wNil)) wNil)) (wC (.int 2))) (wC (.int 1))) (wBin inD (wBin subD (wBin mulD (wC (.int 2)) (wVar 2)) (wB1 (one lenD) (wCons (wVar 0) wNil))) (wTup (wCons (wUn negD (wC (.int 1))) (wCons (wC (.int 1)) wNil))))))
def l_law_is_state_3 : WS :=
  wSeq (wSet 2 (wB1 (one lenD) (wCons (wLc (wComp (wIter (wVar 0)) (gN 1) (wB (wBin eqD (wVar 1) (wC (.str "1")))) (wVar 1) [1])) wNil))) l_law_is_state_4
def b_law_is_state : WS :=
  wSeq (wIfS (wOr (wNot (wTru (wIsi kStr (wVar 0)))) (wB (wBin neD (wLc (wComp (wIter (wVar 0)) (gN 1) (wB (wBin notinD (wVar 1) (wTup (wCons (wC (.str "0")) (wCons (wC (.str "1")) wNil))))) (wVar 1) [1])) (wLst wNil)))) (wRet (wC (.bl false))) wNext) l_law_is_state_3
def T_law_is_state : TP := wP b_law_is_state 2
abbrev N_burning : List Str := ["signs", "sign"]
def b_burning : WS :=
  wRet (wB1 (one lenD) (wCons (wLc (wComp (wIter (wVar 0)) (gN 1) (wB (wBin eqD (wVar 1) (wC (.str "1")))) (wVar 1) [1])) wNil))
def T_burning : TP := wP b_burning 1
abbrev N_is_signs : List Str := ["value", "sign"]
def b_is_signs : WS :=
  wRet (wAndV (wIsi kStr (wVar 0)) (wB1 (one (allD false)) (wCons (wLc (wComp (wIter (wVar 0)) (gN 1) tYesG (wBin inD (wVar 1) (wC (.str "01"))) [1])) wNil)))
def T_is_signs : TP := wP b_is_signs 1
abbrev N_is_state : List Str := ["value"]
def l_is_state_3 : WS :=
  wRet (wBin inD (wCall 1 T_burning [] (wCons (wVar 0) wNil)) (wTup (wCons (wBin fdivD (wB1 (one lenD) (wCons (wVar 0) wNil)) (wC (.int 2))) (wCons (wBin addD (wBin fdivD (wB1 (one lenD) (wCons (wVar 0) wNil)) (wC (.int 2))) (wC (.int 1))) wNil))))
def b_is_state : WS :=
  wSeq (wIfS (wOr (wNot (wTru (wCall 1 T_is_signs [] (wCons (wVar 0) wNil)))) (wOr (wB (wBin eqD (wBin modD (wB1 (one lenD) (wCons (wVar 0) wNil)) (wC (.int 2))) (wC (.int 0)))) (wNot (wB (wChain leD leD (wC (.int 3)) (wB1 (one lenD) (wCons (wVar 0) wNil)) (wBin addD (wBin mulD (wC (.int 2)) (wC (.int 200))) (wC (.int 1)))))))) (wRet (wC (.bl false))) wNext) l_is_state_3
def T_is_state : TP := wP b_is_state 0
abbrev N_need_state : List Str := ["value", "part"]
def b_need_state (xc : XC) : WS :=
  wIfS (wNot (wTru (wCall 1 T_is_state [] (wCons (wVar 0) wNil)))) (wRaise xc 2 [0] (wCons (wVar 1) wNil)) wNext
def T_need_statex : (XD → Prop) → TP := wPx b_need_state 0
def T_need_state : TP := T_need_statex fun _ => False
abbrev N_exchanged_in : List Str := ["state", "sign"]
def b_exchanged_in : WS :=
  wRet (wMt joinD (wC (.str "")) (wLc (wComp (wIter (wVar 0)) (gN 1) tYesG (wIf (wB (wBin eqD (wVar 1) (wC (.str "1")))) (wC (.str "0")) (wC (.str "1"))) [1])))
def T_exchanged_in : TP := wP b_exchanged_in 1
abbrev N_exchanged : List Str := ["state"]
def l_exchanged_2 (xc : XC) : WS :=
  wRet (wCall 1 T_exchanged_in [] (wCons (wVar 0) wNil))
def b_exchanged (xc : XC) : WS :=
  wSeq (wDrop (wCallX 2 T_need_statex xc [.str "state"] (wCons (wVar 0) wNil))) (l_exchanged_2 xc)
def T_exchangedx : (XD → Prop) → TP := wPx b_exchanged 0
def T_exchanged : TP := T_exchangedx fun _ => False
abbrev N_is_high_in : List Str := ["state"]
def b_is_high_in : WS :=
  wRet (wBin gtD (wBin mulD (wC (.int 2)) (wCall 1 T_burning [] (wCons (wVar 0) wNil))) (wB1 (one lenD) (wCons (wVar 0) wNil)))
def T_is_high_in : TP := wP b_is_high_in 0
abbrev N_is_high : List Str := ["state"]
def l_is_high_2 (xc : XC) : WS :=
  wRet (wCall 1 T_is_high_in [] (wCons (wVar 0) wNil))
def b_is_high (xc : XC) : WS :=
  wSeq (wDrop (wCallX 2 T_need_statex xc [.str "state"] (wCons (wVar 0) wNil))) (l_is_high_2 xc)
def T_is_highx : (XD → Prop) → TP := wPx b_is_high 0
def T_is_high : TP := T_is_highx fun _ => False
abbrev N_pairs_of : List Str := ["state"]
def l_pairs_of_2 (xc : XC) : WS :=
  wRet (wBin fdivD (wB1 (one lenD) (wCons (wVar 0) wNil)) (wC (.int 2)))
def b_pairs_of (xc : XC) : WS :=
  wSeq (wDrop (wCallX 2 T_need_statex xc [.str "state"] (wCons (wVar 0) wNil))) (l_pairs_of_2 xc)
def T_pairs_ofx : (XD → Prop) → TP := wPx b_pairs_of 0
def T_pairs_of : TP := T_pairs_ofx fun _ => False
abbrev N_law_heard : List Str := ["_law_ask", "_law_value", "_law_caught", "_law_told", "error"]
def tab_1 : List (Str × ((XD → Prop) → TP)) := [("pairs_of", T_pairs_ofx), ("is_high", T_is_highx), ("exchanged", T_exchangedx)]
def l_law_heard_8 : WS :=
  wRet (wIf (wTru (wIsE [(2, true)] (wVar 2))) (wLst (wCons (wAtE [2] 0 (wVar 2)) wNil)) (wLst (wCons (wC (.str "other")) wNil)))
def l_law_heard_6 : WS :=
  wSeq (wIfS (wB (wBin isD (wVar 2) (wC .non))) (wRet (wVar 3)) wNext) l_law_heard_8
def l_law_heard_2 : WS :=
  wSeq (wTry [2] 4 2 (fun xc => wSet 3 (wCallV 0 1 tab_1 xc (wCons (wVar 1) wNil)))) l_law_heard_6
def b_law_heard : WS :=
  wSeq (wAsg (wTup (wCons (wC .non) (wCons (wC .non) wNil))) (gT 2 (gCs (gN 2) (gCs (gN 3) gNl)))) l_law_heard_2
def T_law_heard : TP := wP b_law_heard 3
abbrev N_law : List Str := ["_law_script", "_law_lampshop_here", "_law_turn", "_law_signs_here", "_law_at", "_law_odd", "_law_other", "_law_value", "_law_due", "_law_ones", "_law_sign", "_law_told"]
def l_law_13 : WS :=
  wCnt
def l_law_18 : WS :=
  wIfS (wOr (wB (wBin neD (wVar 11) (wMt joinD (wC (.str "")) (wLc (wComp (wIter (wVar 7)) (gN 10) tYesG (wIf (wB (wBin eqD (wVar 10) (wC (.str "1")))) (wC (.str "0")) (wC (.str "1"))) [10]))))) (wOr (wB (wBin neD (wCallK 1 T_exchanged (permI [0]) (wCons (wVar 11) wNil)) (wVar 7))) (wB (wBin eqD (wCall 1 T_is_high [] (wCons (wVar 11) wNil)) (wCall 1 T_is_high [] (wCons (wVar 7) wNil)))))) (wRet (wC (.bl false))) wNext
def l_law_17 : WS :=
  wSeq (wSet 11 (wCall 1 T_exchanged [] (wCons (wVar 7) wNil))) l_law_18
def l_law_15 : WS :=
  wSeq (wIfS (wB (wBin neD (wB1 (one reprD) (wCons (wLst (wCons (wCall 1 T_pairs_of [] (wCons (wVar 7) wNil)) (wCons (wCall 1 T_is_high [] (wCons (wVar 7) wNil)) (wCons (wCallK 1 T_pairs_of (permI [0]) (wCons (wVar 7) wNil)) (wCons (wCallK 1 T_is_high (permI [0]) (wCons (wVar 7) wNil)) wNil))))) wNil)) (wB1 (one reprD) (wCons (wBin mulD (wLst (wCons (wBin fdivD (wB1 (one lenD) (wCons (wVar 7) wNil)) (wC (.int 2))) (wCons (wBin gtD (wBin mulD (wC (.int 2)) (wVar 9)) (wB1 (one lenD) (wCons (wVar 7) wNil))) wNil))) (wC (.int 2))) wNil)))) (wRet (wC (.bl false))) wNext) l_law_17
def l_law_14 : WS :=
  wSeq (wSet 9 (wB1 (one lenD) (wCons (wLc (wComp (wIter (wVar 7)) (gN 10) (wB (wBin eqD (wVar 10) (wC (.str "1")))) (wVar 10) [10])) wNil))) l_law_15
def l_law_10 : WS :=
  wSeq (wIfS (wNot (wTru (wVar 8))) (wSeq (wIfS (wB (wBin neD (wLst (wCons (wCall 2 T_law_heard [] (wCons (wC (.fn "pairs_of")) (wCons (wVar 7) wNil))) (wCons (wCall 2 T_law_heard [] (wCons (wC (.fn "is_high")) (wCons (wVar 7) wNil))) (wCons (wCall 2 T_law_heard [] (wCons (wC (.fn "exchanged")) (wCons (wVar 7) wNil))) wNil)))) (wBin mulD (wLst (wCons (wLst (wCons (wC (.str "state")) wNil)) wNil)) (wC (.int 3))))) (wRet (wC (.bl false))) wNext) l_law_13) wNext) l_law_14
def l_law_8 : WS :=
  wSeq (wIfS (wB (wBin neD (wB1 (one reprD) (wCons (wLst (wCons (wCall 1 T_is_state [] (wCons (wVar 7) wNil)) (wCons (wCallK 1 T_is_state (permI [0]) (wCons (wVar 7) wNil)) wNil))) wNil)) (wB1 (one reprD) (wCons (wLst (wCons (wVar 8) (wCons (wVar 8) wNil))) wNil)))) (wRet (wC (.bl false))) wNext) l_law_10
def l_law_7 : WS :=
  wSeq (wSet 8 (wCall 1 T_law_is_state [] (wCons (wVar 7) wNil))) l_law_8
def l_law_6 : WS :=
  wFor (wIter (wTup (wCons (wVar 3) (wCons (wBin addD (wBin addD (wSl (wVar 3) wNoP (wPart (wVar 4))) (wVar 5)) (wSl (wVar 3) (wPart (wVar 4)) wNoP)) (wCons (wBin addD (wBin addD (wSl (wVar 3) wNoP (wPart (wVar 4))) (wVar 5)) (wSl (wVar 3) (wPart (wBin addD (wVar 4) (wC (.int 1)))) wNoP)) (wCons (wVar 6) wNil)))))) (gN 7) l_law_7
def l_law_5 : WS :=
  wSeq (wSet 6 (wCallG 1 T_dial 1 (wCons (wLst (wCons (wC .non) (wCons (wC (.int 5)) (wCons (wC (.int 101)) (wCons (wC (.bl true)) (wCons (wB1 (one toLstD) (wCons (wVar 3) wNil)) (wCons (wB1 (one toTupD) (wCons (wVar 3) wNil)) (wCons (wC (.dic [] [])) (wCons (wLst (wCons (wC (.str "110")) wNil)) wNil))))))))) wNil))) l_law_6
def l_law_4 : WS :=
  wSeq (wPar 4 5 (wCons (wCallG 1 T_tick 1 (wCons (wBin addD (wB1 (one lenD) (wCons (wVar 3) wNil)) (wC (.int 1))) wNil)) (wCons (wCallG 1 T_dial 1 (wCons (wLst (wCons (wC (.str "2")) (wCons (wC (.str " ")) (wCons (wC (.str "x")) (wCons (wC (.str "")) (wCons (wC (.str "1")) (wCons (wC (.str "0")) (wCons (wC (.str "\n")) (wCons (wC (.str "11")) (wCons (wC (.str "00")) wNil)))))))))) wNil)) wNil))) l_law_5
def l_law_3 : WS :=
  wSeq (wSet 3 (wCallG 0 T_law_signs 1 wNil)) l_law_4
def l_law_20 : WS :=
  wRet (wBin eqD (wLst (wCons (wCall 1 T_is_state [] (wCons (wBin addD (wBin mulD (wC (.str "01")) (wC (.int 200))) (wC (.str "1"))) wNil)) (wCons (wCall 1 T_is_state [] (wCons (wBin addD (wBin mulD (wC (.str "01")) (wC (.int 201))) (wC (.str "1"))) wNil)) (wCons (wCall 1 T_is_state [] (wCons (wBin addD (wBin mulD (wC (.str "10")) (wC (.int 200))) (wC (.str "0"))) wNil)) wNil)))) (wLst (wCons (wC (.bl true)) (wCons (wC (.bl false)) (wCons (wC (.bl true)) wNil)))))
def b_law : WS :=
  wSeq (wFor (wRng1 (wC (.int 8))) (gN 2) l_law_3) l_law_20
/-- what is left of the law: plain Lean -/
def Plain : Prop := b_law ⟨fun _ _ => False, fun d _ => d = .bl true, fun _ _ => False, fun _ _ => False⟩ (((List.replicate 12 .no)).set 1 .gau) 0
end L2.DL.k18

set_option Elab.async false
set_option linter.all false
set_option autoImplicit false
set_option maxRecDepth 100000
set_option maxHeartbeats 4000000
namespace L2.DL.k18
open PySem PySem.Spec PyProof.Rows
def top (i : Nat) : Stmt := PySem.Challenge.pw_everyhalf_k18_what_a_state_is.main.body.getD i (.Pass ⟨0, 0, 0, 0⟩)
theorem blk_c {N : List Str} {sc scope : Scope} {own : List (Str × Nat)} (h : blkC N sc scope own = true) : blkC N sc scope own = true := h
abbrev s_mk : Stmt := top 19
abbrev s_tick : Stmt := top 20
abbrev s_dial : Stmt := top 21
abbrev s_law_signs : Stmt := top 22
abbrev s_law_is_state : Stmt := top 23
abbrev s_burning : Stmt := top 10
abbrev s_is_signs : Stmt := top 5
abbrev s_is_state : Stmt := top 14
abbrev s_need_state : Stmt := top 13
abbrev s_exchanged_in : Stmt := top 12
abbrev s_exchanged : Stmt := top 17
abbrev s_is_high_in : Stmt := top 11
abbrev s_is_high : Stmt := top 16
abbrev s_pairs_of : Stmt := top 15
abbrev s_law_heard : Stmt := top 24
abbrev s_law : Stmt := top 25
/-- what of the text the walk asks -/
structure Txt (K : PySem.W.Frag) (mg : Str → Option Value) : Prop where
  n_abs : mg "abs" = none
  n_all : mg "all" = none
  n_int : mg "int" = none
  n_isinstance : mg "isinstance" = none
  n_len : mg "len" = none
  n_list : mg "list" = none
  n_max : mg "max" = none
  n_min : mg "min" = none
  n_range : mg "range" = none
  n_repr : mg "repr" = none
  n_str : mg "str" = none
  n_tuple : mg "tuple" = none
  c_BURNS : ∃ t : Tok, mg "BURNS" = some (.str "1" t)
  c_DARK : ∃ t : Tok, mg "DARK" = some (.str "0" t)
  c_MOST_PAIRS : ∃ t : Tok, mg "MOST_PAIRS" = some (.int 200 t)
  c_SIGNS : ∃ t : Tok, mg "SIGNS" = some (.str "01" t)
structure Def (K : PySem.W.Frag) (mg : Str → Option Value) (x : Str) (st : Stmt) (ps : List Str) (f : Addr) (fd : FuncData) : Prop where
  fn : Fun K x x st f fd
  mg : mg x = some (.ref f)
  bd : Binds K fd ps []
  gl : Glo K x f
structure DefQ (K : PySem.W.Frag) (mg : Str → Option Value) (x : Str) (st : Stmt) (dvs : List V) (f : Addr) (fd : FuncData) : Prop where
  fn : FunD K x x (defArgs st) (defBody st) (defScope st) dvs [] f fd
  mg : mg x = some (.ref f)
  gl : Glo K x f
section
variable {P : Program} {w : World} {K : PySem.W.Frag} {mg : Str → Option Value} {base : Heap} {TB : List (Addr × Str)}
abbrev s_iBadState : Stmt := (C8.clsBody (top 2)).getD 0 (.Pass ⟨0, 0, 0, 0⟩)
theorem cl_BadState {C fI : Addr} {fd : FuncData} (IC : IniC P K mg C fI "BadState.__init__" (defArgs s_iBadState) (defBody s_iBadState) (defScope s_iBadState) fd) (glo : Glo K "BadState" C) (mgc : mg "BadState" = some (.ref C)) (htop : (P.main.scope.names.lookup ("super" : Str)).isSome = false) (h0 : PySem.W.findIn K (.ref C) "part" = some none) : ClsD P w K mg base 1 2 "BadState" C fI fd ["self", "part"] [0] := by
  have bd : Binds K fd ["self", "part"] [] := by
    obtain ⟨oc, od, kV, doc, pm, an, cda, ct, cc, osl, rfl, _⟩ := IC.fn
    exact fun s us _ hl => match us, hl with | [_, _], _ => .of_eq rfl
  have F := ini_fn (w := w) (base := base) (ps := ["self", "part"]) (n := 1) (ta := tMsg [.inl "is none: ", .inr 1]) (t := tSeq (tOst K "part" (tVar 0) (tVar 1)) (tNext)) rfl rfl IC ⟨rfl, rfl, rfl, by decide, by decide +kernel, by decide +kernel, by decide +kernel⟩ ⟨_, rfl, rfl⟩ rfl rfl htop (fun _ _ _ _ => ⟨_, rfl⟩) (fun _ _ _ _ => rfl) (fun _ _ _ _ => rfl) (fun _ _ _ _ => rfl) (fun cd cc A outer s H => pa_cons (pe_joined (.cons pe_str (.cons (pe_fmt (pv 1)) (.nil)))) pa_nil) (fun cd cc A outer s H => pss_cons (ps_ost (pv 0) (pv 1)) (pss_nil)) 0
  exact ⟨rfl, IC.oex, IC.iC, IC.tI, glo, mgc, bd, spX_ini1 IC.oex h0 (by decide) (by simp only [List.mem_cons, List.not_mem_nil, or_false, forall_eq_or_imp, forall_eq, partIn]; decide) F⟩
theorem sc_mk : FnScope N_mk ["_law_script"] (defScope s_mk) := ⟨rfl, rfl, rfl, by decide +kernel, rfl, by decide +kernel, by decide +kernel⟩
theorem ok_mk {f : Addr} {fd : FuncData} (T : Txt K mg) (Dd : Def K mg "_law_lampshop" s_mk ["_law_script"] f fd) : FnG P w K mg base CX0 1 f fd ["_law_script"] (spMk K) := by
  have nd : N_mk.Nodup := sc_mk.nd
  exact dFnMk (n := 60) Dd.fn sc_mk rfl fun cdv A outer s H E => pss_one (ps_ret (pe_lst (pa_cons (pe_lc (own := [("_law_cell", 1)]) rfl nd (pi_list (pe_slice sl_list (pv 0) po_none (po_some pe_int))) (blkOk_by (N := N_mk) (sc := defScope s_mk) (by decide +kernel)) (fun _ _ _ _ _ => pg_name (i := 1) nd rfl (Or.inl rfl)) (fun _ _ _ _ _ => pts_nil) (fun _ _ _ _ _ => pe_callTy call_int1 rfl T.n_int (by decide +kernel) (pa_cons (pv 1) pa_nil))) (pa_cons pe_int (pa_cons pe_int pa_nil)))))
theorem sc_tick : FnScope N_tick ["_law_lampshop_here", "_law_many"] (defScope s_tick) := ⟨rfl, rfl, rfl, by decide +kernel, rfl, by decide +kernel, by decide +kernel⟩
theorem ok_tick {f : Addr} {fd : FuncData} (T : Txt K mg) (Dd : Def K mg "_law_glow" s_tick ["_law_lampshop_here", "_law_many"] f fd) : FnG P w K mg base CX0 1 f fd ["_law_lampshop_here", "_law_many"] (spG K TB 1 T_tick) := by
  have nd : N_tick.Nodup := sc_tick.nd
  exact dFnG (wb := b_tick) (m := 4) Dd.fn sc_tick rfl rfl fun cdv A outer s H E F g gr hr hgd => dssOpen 0 (dssCons (dsIf (dtCmp (o_eq hr.units) (dGx 0) (dLst daNil) (nomark _)) (dssOne (dsRet dInt)) dssNil) (dssCons (dsIf (dtCmp o_gt (dGx 0) dInt (nomark _)) (dssCons (dsSet 2 (dType b_int T.n_int (by decide +kernel) (daCons (dGx 0) daNil)) nd) (dssCons (dsGx 0 (dBin o_fdiv (dVar 2) (dVar 1))) (dssOne (dsRet (dBin o_mod (dType b_int T.n_int (by decide +kernel) (daCons (dVar 2) daNil)) (dVar 1)))))) dssNil) (dssCons (dsSet 3 (dGx 0) nd) (dssCons (dsGx 0 (dBin o_add (dVar 3) dInt)) (dssCons (dsSet 4 (dIx (dGx 0) (dBin o_mod (dType b_int T.n_int (by decide +kernel) (daCons (dVar 3) daNil)) (dBuiltin b_len T.n_len (by decide +kernel) (daCons (dGx 0) daNil)))) nd) (dssCons (dsIf ((dwAnd (dtCmp o_lt (dVar 3) (dBuiltin b_len T.n_len (by decide +kernel) (daCons (dGx 0) daNil)) (nomark _)) (dwAnd1 (dtCmp o_ge (dBuiltin b_abs T.n_abs (by decide +kernel) (daCons (dVar 4) daNil)) (dBin o_pow dInt dInt) (nomark _)))).pt) (dssCons (dsSet 2 (dBin o_add (dBin o_mul dInt (dBin o_sub (dBuiltin b_abs T.n_abs (by decide +kernel) (daCons (dVar 4) daNil)) (dBin o_pow dInt dInt))) (dType b_int T.n_int (by decide +kernel) (daCons (dCmp o_lt (dVar 4) dInt (nomark _)) daNil))) nd) (dssCons (dsGx 0 (dBin o_fdiv (dType b_int T.n_int (by decide +kernel) (daCons (dVar 2) daNil)) (dVar 1))) (dssOne (dsRet (dBin o_mod (dType b_int T.n_int (by decide +kernel) (daCons (dVar 2) daNil)) (dVar 1)))))) dssNil) (dssCons (dsSet 5 (dBin o_mod (dType b_int T.n_int (by decide +kernel) (daCons (dBin o_pow (dBin o_add (dBin o_add (dBin o_mod (dType b_int T.n_int (by decide +kernel) (daCons (dVar 4) daNil)) dInt) (dBin o_mul dInt (dVar 3))) dInt) dInt) daNil)) dInt) nd) (dssCons (dsSet 5 (dBin o_mod (dType b_int T.n_int (by decide +kernel) (daCons (dBin o_pow (dBin o_add (dBin o_add (dBin o_mul (dVar 5) (dBin o_add (dBin o_mul dInt (dVar 3)) dInt)) (dBin o_mul (dBin o_mul dInt (dVar 3)) (dVar 3))) dInt) dInt) daNil)) dInt) nd) (dssOne (dsRet (dBin o_mod (dType b_int T.n_int (by decide +kernel) (daCons (dBin o_fdiv (dVar 5) dInt) daNil)) (dVar 1))))))))))))
theorem sc_dial : FnScope N_dial ["_law_lampshop_here", "_law_some"] (defScope s_dial) := ⟨rfl, rfl, rfl, by decide +kernel, rfl, by decide +kernel, by decide +kernel⟩
theorem ok_dial {f : Addr} {fd : FuncData} {f_tick : Addr} {fd_tick : FuncData} (T : Txt K mg) (Dd : Def K mg "_law_one" s_dial ["_law_lampshop_here", "_law_some"] f fd) (D_tick : Def K mg "_law_glow" s_tick ["_law_lampshop_here", "_law_many"] f_tick fd_tick) (G_tick : FnG P w K mg base CX0 1 f_tick fd_tick ["_law_lampshop_here", "_law_many"] (spG K TB 1 T_tick)) : FnG P w K mg base CX0 2 f fd ["_law_lampshop_here", "_law_some"] (spG K TB 1 T_dial) := by
  have nd : N_dial.Nodup := sc_dial.nd
  exact dFnG (wb := b_dial) (m := 0) Dd.fn sc_dial rfl rfl fun cdv A outer s H E F g gr hr hgd => dssOne (dsRet (dIx (dVar 1) (dCallG 0 G_tick (hr.mono (by decide)) hgd D_tick.mg D_tick.fn.kp D_tick.bd (pv 0) (daCons (dBuiltin b_len T.n_len (by decide +kernel) (daCons (dVar 1) daNil)) daNil))))
theorem sc_law_signs : FnScope N_law_signs ["_law_lampshop_here"] (defScope s_law_signs) := ⟨rfl, rfl, rfl, by decide +kernel, rfl, by decide +kernel, by decide +kernel⟩
theorem ok_law_signs {f : Addr} {fd : FuncData} {f_dial : Addr} {fd_dial : FuncData} {f_tick : Addr} {fd_tick : FuncData} (T : Txt K mg) (Dd : Def K mg "_law_signs" s_law_signs ["_law_lampshop_here"] f fd) (D_dial : Def K mg "_law_one" s_dial ["_law_lampshop_here", "_law_some"] f_dial fd_dial) (G_dial : FnG P w K mg base CX0 2 f_dial fd_dial ["_law_lampshop_here", "_law_some"] (spG K TB 1 T_dial)) (D_tick : Def K mg "_law_glow" s_tick ["_law_lampshop_here", "_law_many"] f_tick fd_tick) (G_tick : FnG P w K mg base CX0 1 f_tick fd_tick ["_law_lampshop_here", "_law_many"] (spG K TB 1 T_tick)) : FnG P w K mg base CX0 3 f fd ["_law_lampshop_here"] (spG K TB 0 T_law_signs) := by
  have nd : N_law_signs.Nodup := sc_law_signs.nd
  exact dFnG (wb := b_law_signs) (m := 5) Dd.fn sc_law_signs rfl rfl fun cdv A outer s H E F g gr hr hgd => dssCons (dsSet 1 (dCallG 0 G_dial (hr.mono (by decide)) hgd D_dial.mg D_dial.fn.kp D_dial.bd (pv 0) (daCons (dLst (daCons dInt (daCons dInt (daCons dInt (daCons dInt (daCons dInt (daCons dInt (daCons dInt (daCons dInt (daCons dInt (daCons dInt (daCons dInt daNil)))))))))))) daNil)) nd) (dssCons (dsSet 2 (dBuiltin (b_max2 rfl) T.n_max (by decide +kernel) (daCons dInt (daCons (dBin o_add (dBin o_fdiv (dVar 1) dInt) (dCallG 0 G_dial (hr.mono (by decide)) hgd D_dial.mg D_dial.fn.kp D_dial.bd (pv 0) (daCons (dLst (daCons dInt (daCons dInt (daCons dInt (daCons dInt (daCons (dNeg dInt) (daCons dInt daNil))))))) daNil))) daNil))) nd) (dssCons (dsSetO 3 (oCat (dBin o_mul (dLst (daCons dStr daNil)) (dBuiltin (b_min2 rfl) T.n_min (by decide +kernel) (daCons (dVar 1) (daCons (dVar 2) daNil)))) (dBin o_mul (dLst (daCons dStr daNil)) (dBuiltin (b_max2 rfl) T.n_max (by decide +kernel) (daCons dInt (daCons (dBin o_sub (dVar 1) (dVar 2)) daNil))))) nd) (dssCons (dsFor (dpRng1 T.n_range (dLenO 3 (pv 3) T.n_len)) (dgN 4 nd) (dssCons (dsSet 5 (dCallG 0 G_tick (hr.mono (by decide)) hgd D_tick.mg D_tick.fn.kp D_tick.bd (pv 0) (daCons (dLenO 3 (pv 3) T.n_len) daNil)) nd) (dssOne (dsSwap 3 (pv 3) (dVar 4) (pv 3) (dVar 5) (daCons (dIxo 3 (pv 3) (dVar 5)) (daCons (dIxo 3 (pv 3) (dVar 4)) daNil))))) PassesOwn.never) (dssFrz 3 (dssOne (dsRet (dMt m_join PySem.F.slot_str_join PySem.F.type_str_join dStr (dVar 3))))))))
theorem sc_law_is_state : FnScope N_law_is_state ["_law_value"] (defScope s_law_is_state) := ⟨rfl, rfl, rfl, by decide +kernel, rfl, by decide +kernel, by decide +kernel⟩
theorem ok_law_is_state {f : Addr} {fd : FuncData} (T : Txt K mg) (Dd : Def K mg "_law_is_state" s_law_is_state ["_law_value"] f fd) : FnG P w K mg base CX0 1 f fd ["_law_value"] (spP K TB 1 T_law_is_state) := by
  have nd : N_law_is_state.Nodup := sc_law_is_state.nd
  exact dFnP (wb := b_law_is_state) (m := 2) Dd.fn sc_law_is_state rfl fun cdv A outer s H E F gr hr hgd => dssCons (dsIf ((dwOr (dtNot (dtTru (dIsi k_str T.n_isinstance T.n_str (by decide +kernel) (dVar 0)))) (dwOr1 (dtCmp (o_ne hr.units) (dOfO (oComp (own := [("_law_sign", 1)]) (dpAny (dVar 0)) (blk_c (N := N_law_is_state) (sc := defScope s_law_is_state) (by decide +kernel)) (fun _ _ _ _ _ _ => dgN 1 nd) (fun _ _ _ _ _ _ => dtOne (dtCmp o_notin (dVar 1) (dTup (daCons dStr (daCons dStr daNil))) (by with_unfolding_all rfl))) (fun _ _ _ _ _ _ => dVar 1) nd)) (dLst daNil) (nomark _)))).pt) (dssOne (dsRet dBl)) dssNil) (dssCons (dsSet 2 (dBuiltin b_len T.n_len (by decide +kernel) (daCons (dOfO (oComp (own := [("_law_sign", 1)]) (dpAny (dVar 0)) (blk_c (N := N_law_is_state) (sc := defScope s_law_is_state) (by decide +kernel)) (fun _ _ _ _ _ _ => dgN 1 nd) (fun _ _ _ _ _ _ => dtOne (dtCmp (o_eq hr.units) (dVar 1) dStr (nomark _))) (fun _ _ _ _ _ _ => dVar 1) nd)) daNil)) nd) (dssOne (dsRet (dAnd (dChain o_le o_le dInt (dBuiltin b_len T.n_len (by decide +kernel) (daCons (dVar 0) daNil)) dInt) (dAnd (dCmp (o_eq hr.units) (dBin o_mod (dType b_int T.n_int (by decide +kernel) (daCons (dBuiltin b_len T.n_len (by decide +kernel) (daCons (dVar 0) daNil)) daNil)) dInt) dInt (nomark _)) (dOne (dCmp o_in (dBin o_sub (dBin o_mul dInt (dVar 2)) (dBuiltin b_len T.n_len (by decide +kernel) (daCons (dVar 0) daNil))) (dTup (daCons (dNeg dInt) (daCons dInt daNil))) (by with_unfolding_all rfl))))))))
theorem sc_burning : FnScope N_burning ["signs"] (defScope s_burning) := ⟨rfl, rfl, rfl, by decide +kernel, rfl, by decide +kernel, by decide +kernel⟩
theorem ok_burning {f : Addr} {fd : FuncData} (T : Txt K mg) (Dd : Def K mg "burning" s_burning ["signs"] f fd) : FnG P w K mg base CX0 1 f fd ["signs"] (spP K TB 1 T_burning) := by
  have nd : N_burning.Nodup := sc_burning.nd
  exact dFnP (wb := b_burning) (m := 1) Dd.fn sc_burning rfl fun cdv A outer s H E F gr hr hgd => dssOne (dsRet (dBuiltin b_len T.n_len (by decide +kernel) (daCons (dOfO (oComp (own := [("sign", 1)]) (dpAny (dVar 0)) (blk_c (N := N_burning) (sc := defScope s_burning) (by decide +kernel)) (fun _ _ _ _ _ _ => dgN 1 nd) (fun _ _ _ _ _ _ => dtOne (dtCmp (o_eq hr.units) (dVar 1) (dGlobS T.c_BURNS) (nomark _))) (fun _ _ _ _ _ _ => dVar 1) nd)) daNil)))
theorem sc_is_signs : FnScope N_is_signs ["value"] (defScope s_is_signs) := ⟨rfl, rfl, rfl, by decide +kernel, rfl, by decide +kernel, by decide +kernel⟩
theorem ok_is_signs {f : Addr} {fd : FuncData} (T : Txt K mg) (Dd : Def K mg "is_signs" s_is_signs ["value"] f fd) : FnG P w K mg base CX0 1 f fd ["value"] (spP K TB 1 T_is_signs) := by
  have nd : N_is_signs.Nodup := sc_is_signs.nd
  exact dFnP (wb := b_is_signs) (m := 1) Dd.fn sc_is_signs rfl fun cdv A outer s H E F gr hr hgd => dssOne (dsRet (dAnd (dIsi k_str T.n_isinstance T.n_str (by decide +kernel) (dVar 0)) (dOne (dBuiltin (b_all rfl) T.n_all (by decide +kernel) (daCons (dOfO (oComp (own := [("sign", 1)]) (dpAny (dVar 0)) (blk_c (N := N_is_signs) (sc := defScope s_is_signs) (by decide +kernel)) (fun _ _ _ _ _ _ => dgN 1 nd) (fun _ _ _ _ _ _ => dtYes) (fun _ _ _ _ _ _ => dCmp o_in (dVar 1) (dGlobS T.c_SIGNS) (by with_unfolding_all rfl)) nd)) daNil)))))
theorem sc_is_state : FnScope N_is_state ["value"] (defScope s_is_state) := ⟨rfl, rfl, rfl, by decide +kernel, rfl, by decide +kernel, by decide +kernel⟩
theorem ok_is_state {f : Addr} {fd : FuncData} {f_is_signs : Addr} {fd_is_signs : FuncData} {f_burning : Addr} {fd_burning : FuncData} (T : Txt K mg) (Dd : Def K mg "is_state" s_is_state ["value"] f fd) (D_is_signs : Def K mg "is_signs" s_is_signs ["value"] f_is_signs fd_is_signs) (G_is_signs : FnG P w K mg base CX0 1 f_is_signs fd_is_signs ["value"] (spP K TB 1 T_is_signs)) (D_burning : Def K mg "burning" s_burning ["signs"] f_burning fd_burning) (G_burning : FnG P w K mg base CX0 1 f_burning fd_burning ["signs"] (spP K TB 1 T_burning)) : FnG P w K mg base CX0 2 f fd ["value"] (spP K TB 1 T_is_state) := by
  have nd : N_is_state.Nodup := sc_is_state.nd
  exact dFnP (wb := b_is_state) (m := 0) Dd.fn sc_is_state rfl fun cdv A outer s H E F gr hr hgd => dssCons (dsIf ((dwOr (dtNot (dtTru (dCall G_is_signs (hr.mono (by decide)) hgd D_is_signs.mg D_is_signs.fn.kp D_is_signs.bd (daCons (dVar 0) daNil)))) (dwOr (dtCmp (o_eq hr.units) (dBin o_mod (dBuiltin b_len T.n_len (by decide +kernel) (daCons (dVar 0) daNil)) dInt) dInt (nomark _)) (dwOr1 (dtNot (dtChain o_le o_le dInt (dBuiltin b_len T.n_len (by decide +kernel) (daCons (dVar 0) daNil)) (dBin o_add (dBin o_mul dInt (dGlobI T.c_MOST_PAIRS)) dInt)))))).pt) (dssOne (dsRet dBl)) dssNil) (dssOne (dsRet (dCmp o_in (dCall G_burning (hr.mono (by decide)) hgd D_burning.mg D_burning.fn.kp D_burning.bd (daCons (dVar 0) daNil)) (dTup (daCons (dBin o_fdiv (dBuiltin b_len T.n_len (by decide +kernel) (daCons (dVar 0) daNil)) dInt) (daCons (dBin o_add (dBin o_fdiv (dBuiltin b_len T.n_len (by decide +kernel) (daCons (dVar 0) daNil)) dInt) dInt) daNil))) (by with_unfolding_all rfl))))
theorem sc_need_state : FnScope N_need_state ["value", "part"] (defScope s_need_state) := ⟨rfl, rfl, rfl, by decide +kernel, rfl, by decide +kernel, by decide +kernel⟩
theorem ok_need_state {f : Addr} {fd : FuncData} {f_is_state : Addr} {fd_is_state : FuncData} {C_BadState fI_BadState : Addr} {fdI_BadState : FuncData} (T : Txt K mg) (Dd : DefQ K mg "need_state" s_need_state [.str "state"] f fd) (D_is_state : Def K mg "is_state" s_is_state ["value"] f_is_state fd_is_state) (G_is_state : FnG P w K mg base CX0 2 f_is_state fd_is_state ["value"] (spP K TB 1 T_is_state)) (CL_BadState : ClsD P w K mg base 1 2 "BadState" C_BadState fI_BadState fdI_BadState ["self", "part"] [0]) : FnG P w K mg base (L2.CX P w) 3 f fd ["value", "part"] (spPx K TB 2 T_need_statex) := by
  have nd : N_need_state.Nodup := sc_need_state.nd
  exact dFnXD (wb := b_need_state) (m := 0) Dd.fn sc_need_state rfl fun cdv A outer s H E F gr xc hr hgd tk po => dssOne (dsIf (dtNot (dtTru (dCall G_is_state (hr.mono (by decide)) hgd D_is_state.mg D_is_state.fn.kp D_is_state.bd (daCons (dVar 0) daNil)))) (dssOne (dsRaise tk CL_BadState (hr.mono (by decide)) (daCons (dVar 1) daNil) (by decide))) dssNil)
theorem sc_exchanged_in : FnScope N_exchanged_in ["state"] (defScope s_exchanged_in) := ⟨rfl, rfl, rfl, by decide +kernel, rfl, by decide +kernel, by decide +kernel⟩
theorem ok_exchanged_in {f : Addr} {fd : FuncData} (T : Txt K mg) (Dd : Def K mg "exchanged_in" s_exchanged_in ["state"] f fd) : FnG P w K mg base CX0 1 f fd ["state"] (spP K TB 1 T_exchanged_in) := by
  have nd : N_exchanged_in.Nodup := sc_exchanged_in.nd
  exact dFnP (wb := b_exchanged_in) (m := 1) Dd.fn sc_exchanged_in rfl fun cdv A outer s H E F gr hr hgd => dssOne (dsRet (dMt m_join PySem.F.slot_str_join PySem.F.type_str_join dStr (dOfO (oComp (own := [("sign", 1)]) (dpAny (dVar 0)) (blk_c (N := N_exchanged_in) (sc := defScope s_exchanged_in) (by decide +kernel)) (fun _ _ _ _ _ _ => dgN 1 nd) (fun _ _ _ _ _ _ => dtYes) (fun _ _ _ _ _ _ => dIf (dtCmp (o_eq hr.units) (dVar 1) (dGlobS T.c_BURNS) (nomark _)) (dGlobS T.c_DARK) (dGlobS T.c_BURNS)) nd))))
theorem sc_exchanged : FnScope N_exchanged ["state"] (defScope s_exchanged) := ⟨rfl, rfl, rfl, by decide +kernel, rfl, by decide +kernel, by decide +kernel⟩
theorem ok_exchanged {f : Addr} {fd : FuncData} {f_need_state : Addr} {fd_need_state : FuncData} {f_exchanged_in : Addr} {fd_exchanged_in : FuncData} {ds_need_state_1 : List Value} (T : Txt K mg) (Dd : Def K mg "exchanged" s_exchanged ["state"] f fd) (D_need_state : DefQ K mg "need_state" s_need_state [.str "state"] f_need_state fd_need_state) (G_need_state : FnG P w K mg base CX0 3 f_need_state fd_need_state ["value", "part"] (spP K TB 2 T_need_state)) (D_exchanged_in : Def K mg "exchanged_in" s_exchanged_in ["state"] f_exchanged_in fd_exchanged_in) (G_exchanged_in : FnG P w K mg base CX0 1 f_exchanged_in fd_exchanged_in ["state"] (spP K TB 1 T_exchanged_in)) (B_need_state_1 : Vals [.str "state"] ds_need_state_1 ∧ Binds K fd_need_state ["value", "part"] ds_need_state_1) (GX_need_state : FnG P w K mg base (L2.CX P w) 3 f_need_state fd_need_state ["value", "part"] (spPx K TB 2 T_need_statex)) : FnG P w K mg base (L2.CX P w) 4 f fd ["state"] (spPx K TB 1 T_exchangedx) := by
  have nd : N_exchanged.Nodup := sc_exchanged.nd
  exact dFnX (wb := b_exchanged) (m := 0) Dd.fn sc_exchanged rfl fun cdv A outer s H E F gr xc hr hgd tk po => dssCons (dsDrop (dCallX tk GX_need_state (hr.mono (by decide)) hgd D_need_state.mg D_need_state.fn.kp B_need_state_1.2 B_need_state_1.1 (fun _ => .cons (.str _) .nil) (daCons (dVar 0) daNil))) (dssOne (dsRet (dCall G_exchanged_in (hr.mono (by decide)) hgd D_exchanged_in.mg D_exchanged_in.fn.kp D_exchanged_in.bd (daCons (dVar 0) daNil))))
theorem sc_is_high_in : FnScope N_is_high_in ["state"] (defScope s_is_high_in) := ⟨rfl, rfl, rfl, by decide +kernel, rfl, by decide +kernel, by decide +kernel⟩
theorem ok_is_high_in {f : Addr} {fd : FuncData} {f_burning : Addr} {fd_burning : FuncData} (T : Txt K mg) (Dd : Def K mg "is_high_in" s_is_high_in ["state"] f fd) (D_burning : Def K mg "burning" s_burning ["signs"] f_burning fd_burning) (G_burning : FnG P w K mg base CX0 1 f_burning fd_burning ["signs"] (spP K TB 1 T_burning)) : FnG P w K mg base CX0 2 f fd ["state"] (spP K TB 1 T_is_high_in) := by
  have nd : N_is_high_in.Nodup := sc_is_high_in.nd
  exact dFnP (wb := b_is_high_in) (m := 0) Dd.fn sc_is_high_in rfl fun cdv A outer s H E F gr hr hgd => dssOne (dsRet (dCmp o_gt (dBin o_mul dInt (dCall G_burning (hr.mono (by decide)) hgd D_burning.mg D_burning.fn.kp D_burning.bd (daCons (dVar 0) daNil))) (dBuiltin b_len T.n_len (by decide +kernel) (daCons (dVar 0) daNil)) (nomark _)))
theorem sc_is_high : FnScope N_is_high ["state"] (defScope s_is_high) := ⟨rfl, rfl, rfl, by decide +kernel, rfl, by decide +kernel, by decide +kernel⟩
theorem ok_is_high {f : Addr} {fd : FuncData} {f_need_state : Addr} {fd_need_state : FuncData} {f_is_high_in : Addr} {fd_is_high_in : FuncData} {ds_need_state_1 : List Value} (T : Txt K mg) (Dd : Def K mg "is_high" s_is_high ["state"] f fd) (D_need_state : DefQ K mg "need_state" s_need_state [.str "state"] f_need_state fd_need_state) (G_need_state : FnG P w K mg base CX0 3 f_need_state fd_need_state ["value", "part"] (spP K TB 2 T_need_state)) (D_is_high_in : Def K mg "is_high_in" s_is_high_in ["state"] f_is_high_in fd_is_high_in) (G_is_high_in : FnG P w K mg base CX0 2 f_is_high_in fd_is_high_in ["state"] (spP K TB 1 T_is_high_in)) (B_need_state_1 : Vals [.str "state"] ds_need_state_1 ∧ Binds K fd_need_state ["value", "part"] ds_need_state_1) (GX_need_state : FnG P w K mg base (L2.CX P w) 3 f_need_state fd_need_state ["value", "part"] (spPx K TB 2 T_need_statex)) : FnG P w K mg base (L2.CX P w) 4 f fd ["state"] (spPx K TB 1 T_is_highx) := by
  have nd : N_is_high.Nodup := sc_is_high.nd
  exact dFnX (wb := b_is_high) (m := 0) Dd.fn sc_is_high rfl fun cdv A outer s H E F gr xc hr hgd tk po => dssCons (dsDrop (dCallX tk GX_need_state (hr.mono (by decide)) hgd D_need_state.mg D_need_state.fn.kp B_need_state_1.2 B_need_state_1.1 (fun _ => .cons (.str _) .nil) (daCons (dVar 0) daNil))) (dssOne (dsRet (dCall G_is_high_in (hr.mono (by decide)) hgd D_is_high_in.mg D_is_high_in.fn.kp D_is_high_in.bd (daCons (dVar 0) daNil))))
theorem sc_pairs_of : FnScope N_pairs_of ["state"] (defScope s_pairs_of) := ⟨rfl, rfl, rfl, by decide +kernel, rfl, by decide +kernel, by decide +kernel⟩
theorem ok_pairs_of {f : Addr} {fd : FuncData} {f_need_state : Addr} {fd_need_state : FuncData} {ds_need_state_1 : List Value} (T : Txt K mg) (Dd : Def K mg "pairs_of" s_pairs_of ["state"] f fd) (D_need_state : DefQ K mg "need_state" s_need_state [.str "state"] f_need_state fd_need_state) (G_need_state : FnG P w K mg base CX0 3 f_need_state fd_need_state ["value", "part"] (spP K TB 2 T_need_state)) (B_need_state_1 : Vals [.str "state"] ds_need_state_1 ∧ Binds K fd_need_state ["value", "part"] ds_need_state_1) (GX_need_state : FnG P w K mg base (L2.CX P w) 3 f_need_state fd_need_state ["value", "part"] (spPx K TB 2 T_need_statex)) : FnG P w K mg base (L2.CX P w) 4 f fd ["state"] (spPx K TB 1 T_pairs_ofx) := by
  have nd : N_pairs_of.Nodup := sc_pairs_of.nd
  exact dFnX (wb := b_pairs_of) (m := 0) Dd.fn sc_pairs_of rfl fun cdv A outer s H E F gr xc hr hgd tk po => dssCons (dsDrop (dCallX tk GX_need_state (hr.mono (by decide)) hgd D_need_state.mg D_need_state.fn.kp B_need_state_1.2 B_need_state_1.1 (fun _ => .cons (.str _) .nil) (daCons (dVar 0) daNil))) (dssOne (dsRet (dBin o_fdiv (dBuiltin b_len T.n_len (by decide +kernel) (daCons (dVar 0) daNil)) dInt)))
theorem sc_law_heard : FnScope N_law_heard ["_law_ask", "_law_value"] (defScope s_law_heard) := ⟨rfl, rfl, rfl, by decide +kernel, rfl, by decide +kernel, by decide +kernel⟩
theorem ok_law_heard {f : Addr} {fd : FuncData} {CH : Addr} {Ci_BadState : Addr} (T : Txt K mg) (Dd : Def K mg "_law_heard" s_law_heard ["_law_ask", "_law_value"] f fd) (XH : ExH K mg "HalfError" CH [2]) (IS_BadState : IsF K mg "BadState" Ci_BadState [(2, true)]) (AT_part : AtF K "part" [2]) (HV_1 : ∀ p ∈ tab_1, FnV P w K mg base TB 4 1 p.1 p.2) : FnG P w K mg base CX0 5 f fd ["_law_ask", "_law_value"] (spP K TB 2 T_law_heard) := by
  have nd : N_law_heard.Nodup := sc_law_heard.nd
  exact dFnP (wb := b_law_heard) (m := 3) Dd.fn sc_law_heard rfl fun cdv A outer s H E F gr hr hgd => dssCons (dsAsg (dTup (daCons dNon (daCons dNon daNil))) (dgTup (dgCons (dgN 2 nd) (dgCons (dgN 3 nd) dgNil)))) (dssCons (dsTry 4 2 XH.each XH.mg nd (fun gr xc sg pn xe tk po => dssOne (dsSet 3 (dCallV 0 tk HV_1 (hr.mono (by decide)) hgd (daCons (dVar 1) daNil)) nd))) (dssCons (dsIf (dtCmp o_is (dVar 2) dNon (nomark _)) (dssOne (dsRet (dVar 3))) dssNil) (dssOne (dsRet (dIf (dtTru (dIsE IS_BadState T.n_isinstance (dVar 2))) (dLst (daCons (dAtE rfl (by decide) AT_part (dVar 2)) daNil)) (dLst (daCons dStr daNil)))))))
theorem sc_law : FnScope N_law ["_law_script"] (defScope s_law) := ⟨rfl, rfl, rfl, by decide +kernel, rfl, by decide +kernel, by decide +kernel⟩
theorem kb_is_state_0 {f : Addr} {fd : FuncData} (Dd : Def K mg "is_state" s_is_state ["value"] f fd) : KBinds K fd ["value"] ["value"] (permV [0]) (permV [0]) := by
  obtain ⟨oc, od, kV, doc, pm, an, cdv, ct, osl, rfl, lk, hcd⟩ := Dd.fn.ex
  exact kb_of _ (by decide) fun s ws hl => match ws, hl with | [_], _ => .of_eq rfl
theorem kb_is_high_0 {f : Addr} {fd : FuncData} (Dd : Def K mg "is_high" s_is_high ["state"] f fd) : KBinds K fd ["state"] ["state"] (permV [0]) (permV [0]) := by
  obtain ⟨oc, od, kV, doc, pm, an, cdv, ct, osl, rfl, lk, hcd⟩ := Dd.fn.ex
  exact kb_of _ (by decide) fun s ws hl => match ws, hl with | [_], _ => .of_eq rfl
theorem kb_pairs_of_0 {f : Addr} {fd : FuncData} (Dd : Def K mg "pairs_of" s_pairs_of ["state"] f fd) : KBinds K fd ["state"] ["state"] (permV [0]) (permV [0]) := by
  obtain ⟨oc, od, kV, doc, pm, an, cdv, ct, osl, rfl, lk, hcd⟩ := Dd.fn.ex
  exact kb_of _ (by decide) fun s ws hl => match ws, hl with | [_], _ => .of_eq rfl
theorem kb_exchanged_0 {f : Addr} {fd : FuncData} (Dd : Def K mg "exchanged" s_exchanged ["state"] f fd) : KBinds K fd ["state"] ["state"] (permV [0]) (permV [0]) := by
  obtain ⟨oc, od, kV, doc, pm, an, cdv, ct, osl, rfl, lk, hcd⟩ := Dd.fn.ex
  exact kb_of _ (by decide) fun s ws hl => match ws, hl with | [_], _ => .of_eq rfl
theorem ok_law (hplain : Plain) {f : Addr} {fd : FuncData} {f_mk : Addr} {fd_mk : FuncData} {f_law_signs : Addr} {fd_law_signs : FuncData} {f_dial : Addr} {fd_dial : FuncData} {f_tick : Addr} {fd_tick : FuncData} {f_law_is_state : Addr} {fd_law_is_state : FuncData} {f_is_state : Addr} {fd_is_state : FuncData} {f_law_heard : Addr} {fd_law_heard : FuncData} {f_exchanged : Addr} {fd_exchanged : FuncData} {f_is_high : Addr} {fd_is_high : FuncData} {f_pairs_of : Addr} {fd_pairs_of : FuncData} (T : Txt K mg) (Dd : Def K mg "law" s_law ["_law_script"] f fd) (D_mk : Def K mg "_law_lampshop" s_mk ["_law_script"] f_mk fd_mk) (G_mk : FnG P w K mg base CX0 1 f_mk fd_mk ["_law_script"] (spMk K)) (D_law_signs : Def K mg "_law_signs" s_law_signs ["_law_lampshop_here"] f_law_signs fd_law_signs) (G_law_signs : FnG P w K mg base CX0 3 f_law_signs fd_law_signs ["_law_lampshop_here"] (spG K TB 0 T_law_signs)) (D_dial : Def K mg "_law_one" s_dial ["_law_lampshop_here", "_law_some"] f_dial fd_dial) (G_dial : FnG P w K mg base CX0 2 f_dial fd_dial ["_law_lampshop_here", "_law_some"] (spG K TB 1 T_dial)) (D_tick : Def K mg "_law_glow" s_tick ["_law_lampshop_here", "_law_many"] f_tick fd_tick) (G_tick : FnG P w K mg base CX0 1 f_tick fd_tick ["_law_lampshop_here", "_law_many"] (spG K TB 1 T_tick)) (D_law_is_state : Def K mg "_law_is_state" s_law_is_state ["_law_value"] f_law_is_state fd_law_is_state) (G_law_is_state : FnG P w K mg base CX0 1 f_law_is_state fd_law_is_state ["_law_value"] (spP K TB 1 T_law_is_state)) (D_is_state : Def K mg "is_state" s_is_state ["value"] f_is_state fd_is_state) (G_is_state : FnG P w K mg base CX0 2 f_is_state fd_is_state ["value"] (spP K TB 1 T_is_state)) (D_law_heard : Def K mg "_law_heard" s_law_heard ["_law_ask", "_law_value"] f_law_heard fd_law_heard) (G_law_heard : FnG P w K mg base CX0 5 f_law_heard fd_law_heard ["_law_ask", "_law_value"] (spP K TB 2 T_law_heard)) (D_exchanged : Def K mg "exchanged" s_exchanged ["state"] f_exchanged fd_exchanged) (G_exchanged : FnG P w K mg base CX0 4 f_exchanged fd_exchanged ["state"] (spP K TB 1 T_exchanged)) (D_is_high : Def K mg "is_high" s_is_high ["state"] f_is_high fd_is_high) (G_is_high : FnG P w K mg base CX0 4 f_is_high fd_is_high ["state"] (spP K TB 1 T_is_high)) (D_pairs_of : Def K mg "pairs_of" s_pairs_of ["state"] f_pairs_of fd_pairs_of) (G_pairs_of : FnG P w K mg base CX0 4 f_pairs_of fd_pairs_of ["state"] (spP K TB 1 T_pairs_of)) : FnG P w K mg base CX0 6 f fd ["_law_script"] (spLaw K TB) := by
  have nd : N_law.Nodup := sc_law.nd
  refine dFnLaw (i := 1) (m := 12) (wl := b_law) Dd.fn sc_law rfl (by decide) hplain fun cdv A outer s H E hr hgd => ?_
  exact law_first (ps0 := "_law_script") G_mk (hr.mono (by decide)) hgd D_mk.mg D_mk.fn.kp D_mk.bd (pv 0) nd rfl (by first | exact Or.inl rfl | exact Or.inr rfl) rfl (by decide) rfl rfl rfl (.inl rfl) fun F g gr => dssCons (dsFor (dpRng1 T.n_range dInt) (dgN 2 nd) (dssCons (dsSet 3 (dCallG 1 G_law_signs (hr.mono (by decide)) hgd D_law_signs.mg D_law_signs.fn.kp D_law_signs.bd (pv 1) daNil) nd) (dssCons (dsPar 4 5 (daCons (dCallG 1 G_tick (hr.mono (by decide)) hgd D_tick.mg D_tick.fn.kp D_tick.bd (pv 1) (daCons (dBin o_add (dBuiltin b_len T.n_len (by decide +kernel) (daCons (dVar 3) daNil)) dInt) daNil)) (daCons (dCallG 1 G_dial (hr.mono (by decide)) hgd D_dial.mg D_dial.fn.kp D_dial.bd (pv 1) (daCons (dLst (daCons dStr (daCons dStr (daCons dStr (daCons dStr (daCons dStr (daCons dStr (daCons dStr (daCons dStr (daCons dStr daNil)))))))))) daNil)) daNil)) nd) (dssCons (dsSet 6 (dCallG 1 G_dial (hr.mono (by decide)) hgd D_dial.mg D_dial.fn.kp D_dial.bd (pv 1) (daCons (dLst (daCons dNon (daCons dInt (daCons dInt (daCons dBl (daCons (dType (b_list rfl) T.n_list (by decide +kernel) (daCons (dVar 3) daNil)) (daCons (dType (b_tuple rfl) T.n_tuple (by decide +kernel) (daCons (dVar 3) daNil)) (daCons dDict0 (daCons (dLst (daCons dStr daNil)) daNil))))))))) daNil)) nd) (dssOne (dsFor (dpAny (dTup (daCons (dVar 3) (daCons (dBin o_add (dBin o_add (dSl (dVar 3) dNoP (dPart (dVar 4))) (dVar 5)) (dSl (dVar 3) (dPart (dVar 4)) dNoP)) (daCons (dBin o_add (dBin o_add (dSl (dVar 3) dNoP (dPart (dVar 4))) (dVar 5)) (dSl (dVar 3) (dPart (dBin o_add (dVar 4) dInt)) dNoP)) (daCons (dVar 6) daNil)))))) (dgN 7 nd) (dssCons (dsSet 8 (dCall G_law_is_state (hr.mono (by decide)) hgd D_law_is_state.mg D_law_is_state.fn.kp D_law_is_state.bd (daCons (dVar 7) daNil)) nd) (dssCons (dsIf (dtCmp (o_ne hr.units) (dBuiltin (b_repr hr.units hgd) T.n_repr (by decide +kernel) (daCons (dLst (daCons (dCall G_is_state (hr.mono (by decide)) hgd D_is_state.mg D_is_state.fn.kp D_is_state.bd (daCons (dVar 7) daNil)) (daCons (dCallK (permI [0]) G_is_state (hr.mono (by decide)) hgd D_is_state.mg D_is_state.fn.kp (kb_is_state_0 D_is_state) (fun _ _ _ h => HasL.permI _ h) (dkCons (dVar 7) dkNil)) daNil))) daNil)) (dBuiltin (b_repr hr.units hgd) T.n_repr (by decide +kernel) (daCons (dLst (daCons (dVar 8) (daCons (dVar 8) daNil))) daNil)) (nomark _)) (dssOne (dsRet dBl)) dssNil) (dssCons (dsIf (dtNot (dtTru (dVar 8))) (dssCons (dsIf (dtCmp (o_ne hr.units) (dLst (daCons (dCall G_law_heard (hr.mono (by decide)) hgd D_law_heard.mg D_law_heard.fn.kp D_law_heard.bd (daCons (dFnV D_pairs_of.mg D_pairs_of.gl) (daCons (dVar 7) daNil))) (daCons (dCall G_law_heard (hr.mono (by decide)) hgd D_law_heard.mg D_law_heard.fn.kp D_law_heard.bd (daCons (dFnV D_is_high.mg D_is_high.gl) (daCons (dVar 7) daNil))) (daCons (dCall G_law_heard (hr.mono (by decide)) hgd D_law_heard.mg D_law_heard.fn.kp D_law_heard.bd (daCons (dFnV D_exchanged.mg D_exchanged.gl) (daCons (dVar 7) daNil))) daNil)))) (dBin o_mul (dLst (daCons (dLst (daCons dStr daNil)) daNil)) dInt) (nomark _)) (dssOne (dsRet dBl)) dssNil) (dssOne dsCnt)) dssNil) (dssCons (dsSet 9 (dBuiltin b_len T.n_len (by decide +kernel) (daCons (dOfO (oComp (own := [("_law_sign", 10)]) (dpAny (dVar 7)) (blk_c (N := N_law) (sc := defScope s_law) (by decide +kernel)) (fun _ _ _ _ _ _ => dgN 10 nd) (fun _ _ _ _ _ _ => dtOne (dtCmp (o_eq hr.units) (dVar 10) dStr (nomark _))) (fun _ _ _ _ _ _ => dVar 10) nd)) daNil)) nd) (dssCons (dsIf (dtCmp (o_ne hr.units) (dBuiltin (b_repr hr.units hgd) T.n_repr (by decide +kernel) (daCons (dLst (daCons (dCall G_pairs_of (hr.mono (by decide)) hgd D_pairs_of.mg D_pairs_of.fn.kp D_pairs_of.bd (daCons (dVar 7) daNil)) (daCons (dCall G_is_high (hr.mono (by decide)) hgd D_is_high.mg D_is_high.fn.kp D_is_high.bd (daCons (dVar 7) daNil)) (daCons (dCallK (permI [0]) G_pairs_of (hr.mono (by decide)) hgd D_pairs_of.mg D_pairs_of.fn.kp (kb_pairs_of_0 D_pairs_of) (fun _ _ _ h => HasL.permI _ h) (dkCons (dVar 7) dkNil)) (daCons (dCallK (permI [0]) G_is_high (hr.mono (by decide)) hgd D_is_high.mg D_is_high.fn.kp (kb_is_high_0 D_is_high) (fun _ _ _ h => HasL.permI _ h) (dkCons (dVar 7) dkNil)) daNil))))) daNil)) (dBuiltin (b_repr hr.units hgd) T.n_repr (by decide +kernel) (daCons (dBin o_mul (dLst (daCons (dBin o_fdiv (dBuiltin b_len T.n_len (by decide +kernel) (daCons (dVar 7) daNil)) dInt) (daCons (dCmp o_gt (dBin o_mul dInt (dVar 9)) (dBuiltin b_len T.n_len (by decide +kernel) (daCons (dVar 7) daNil)) (nomark _)) daNil))) dInt) daNil)) (nomark _)) (dssOne (dsRet dBl)) dssNil) (dssCons (dsSet 11 (dCall G_exchanged (hr.mono (by decide)) hgd D_exchanged.mg D_exchanged.fn.kp D_exchanged.bd (daCons (dVar 7) daNil)) nd) (dssOne (dsIf ((dwOr (dtCmp (o_ne hr.units) (dVar 11) (dMt m_join PySem.F.slot_str_join PySem.F.type_str_join dStr (dOfO (oComp (own := [("_law_sign", 10)]) (dpAny (dVar 7)) (blk_c (N := N_law) (sc := defScope s_law) (by decide +kernel)) (fun _ _ _ _ _ _ => dgN 10 nd) (fun _ _ _ _ _ _ => dtYes) (fun _ _ _ _ _ _ => dIf (dtCmp (o_eq hr.units) (dVar 10) dStr (nomark _)) dStr dStr) nd))) (nomark _)) (dwOr (dtCmp (o_ne hr.units) (dCallK (permI [0]) G_exchanged (hr.mono (by decide)) hgd D_exchanged.mg D_exchanged.fn.kp (kb_exchanged_0 D_exchanged) (fun _ _ _ h => HasL.permI _ h) (dkCons (dVar 11) dkNil)) (dVar 7) (nomark _)) (dwOr1 (dtCmp (o_eq hr.units) (dCall G_is_high (hr.mono (by decide)) hgd D_is_high.mg D_is_high.fn.kp D_is_high.bd (daCons (dVar 11) daNil)) (dCall G_is_high (hr.mono (by decide)) hgd D_is_high.mg D_is_high.fn.kp D_is_high.bd (daCons (dVar 7) daNil)) (nomark _))))).pt) (dssOne (dsRet dBl)) dssNil)))))))) PassesOwn.never))))) PassesOwn.never) (dssOne (dsRet (dCmp (o_eq hr.units) (dLst (daCons (dCall G_is_state (hr.mono (by decide)) hgd D_is_state.mg D_is_state.fn.kp D_is_state.bd (daCons (dBin o_add (dBin o_mul dStr dInt) dStr) daNil)) (daCons (dCall G_is_state (hr.mono (by decide)) hgd D_is_state.mg D_is_state.fn.kp D_is_state.bd (daCons (dBin o_add (dBin o_mul dStr dInt) dStr) daNil)) (daCons (dCall G_is_state (hr.mono (by decide)) hgd D_is_state.mg D_is_state.fn.kp D_is_state.bd (daCons (dBin o_add (dBin o_mul dStr dInt) dStr) daNil)) daNil)))) (dLst (daCons dBl (daCons dBl (daCons dBl daNil)))) (nomark _))))
end
theorem all_mk {l : PySem.W.OpenLaw} {w : World} {K : PySem.W.Frag} {h : Heap} {mg : Str → Option Value} {fa : Addr} (hplain : Plain) (X : K.In h) (G : h.Ns mainGlobals mg) (hfa : mg "law" = some (.ref fa))
    {f0 : Addr} {od0 an0 : Option Addr} {sl0 : Array (Option Value)} {oc0 kV0 dc0 pm0 cd0 ct0 : Value}
    (a0 : PySem.W.nsIn K mainGlobals "_law_lampshop" = some (some (.ref f0))) (l0 : K.lookup f0 = some ⟨oc0, od0, .func (PySem.W.fnOf "_law_lampshop" "_law_lampshop" (defArgs s_mk) (defBody s_mk) (defScope s_mk) .none kV0 dc0 pm0 an0 cd0 ct0), sl0⟩) (c0 : PySem.W.codeIn K cd0 "_law_lampshop" = true) (k0 : PySem.W.keepIn K (.ref f0) = true)
    {f1 : Addr} {od1 an1 : Option Addr} {sl1 : Array (Option Value)} {oc1 kV1 dc1 pm1 cd1 ct1 : Value}
    (a1 : PySem.W.nsIn K mainGlobals "_law_glow" = some (some (.ref f1))) (l1 : K.lookup f1 = some ⟨oc1, od1, .func (PySem.W.fnOf "_law_glow" "_law_glow" (defArgs s_tick) (defBody s_tick) (defScope s_tick) .none kV1 dc1 pm1 an1 cd1 ct1), sl1⟩) (c1 : PySem.W.codeIn K cd1 "_law_glow" = true) (k1 : PySem.W.keepIn K (.ref f1) = true)
    {f2 : Addr} {od2 an2 : Option Addr} {sl2 : Array (Option Value)} {oc2 kV2 dc2 pm2 cd2 ct2 : Value}
    (a2 : PySem.W.nsIn K mainGlobals "_law_one" = some (some (.ref f2))) (l2 : K.lookup f2 = some ⟨oc2, od2, .func (PySem.W.fnOf "_law_one" "_law_one" (defArgs s_dial) (defBody s_dial) (defScope s_dial) .none kV2 dc2 pm2 an2 cd2 ct2), sl2⟩) (c2 : PySem.W.codeIn K cd2 "_law_one" = true) (k2 : PySem.W.keepIn K (.ref f2) = true)
    {f3 : Addr} {od3 an3 : Option Addr} {sl3 : Array (Option Value)} {oc3 kV3 dc3 pm3 cd3 ct3 : Value}
    (a3 : PySem.W.nsIn K mainGlobals "_law_signs" = some (some (.ref f3))) (l3 : K.lookup f3 = some ⟨oc3, od3, .func (PySem.W.fnOf "_law_signs" "_law_signs" (defArgs s_law_signs) (defBody s_law_signs) (defScope s_law_signs) .none kV3 dc3 pm3 an3 cd3 ct3), sl3⟩) (c3 : PySem.W.codeIn K cd3 "_law_signs" = true) (k3 : PySem.W.keepIn K (.ref f3) = true)
    {f4 : Addr} {od4 an4 : Option Addr} {sl4 : Array (Option Value)} {oc4 kV4 dc4 pm4 cd4 ct4 : Value}
    (a4 : PySem.W.nsIn K mainGlobals "_law_is_state" = some (some (.ref f4))) (l4 : K.lookup f4 = some ⟨oc4, od4, .func (PySem.W.fnOf "_law_is_state" "_law_is_state" (defArgs s_law_is_state) (defBody s_law_is_state) (defScope s_law_is_state) .none kV4 dc4 pm4 an4 cd4 ct4), sl4⟩) (c4 : PySem.W.codeIn K cd4 "_law_is_state" = true) (k4 : PySem.W.keepIn K (.ref f4) = true)
    {f5 : Addr} {od5 an5 : Option Addr} {sl5 : Array (Option Value)} {oc5 kV5 dc5 pm5 cd5 ct5 : Value}
    (a5 : PySem.W.nsIn K mainGlobals "burning" = some (some (.ref f5))) (l5 : K.lookup f5 = some ⟨oc5, od5, .func (PySem.W.fnOf "burning" "burning" (defArgs s_burning) (defBody s_burning) (defScope s_burning) .none kV5 dc5 pm5 an5 cd5 ct5), sl5⟩) (c5 : PySem.W.codeIn K cd5 "burning" = true) (k5 : PySem.W.keepIn K (.ref f5) = true)
    {f6 : Addr} {od6 an6 : Option Addr} {sl6 : Array (Option Value)} {oc6 kV6 dc6 pm6 cd6 ct6 : Value}
    (a6 : PySem.W.nsIn K mainGlobals "is_signs" = some (some (.ref f6))) (l6 : K.lookup f6 = some ⟨oc6, od6, .func (PySem.W.fnOf "is_signs" "is_signs" (defArgs s_is_signs) (defBody s_is_signs) (defScope s_is_signs) .none kV6 dc6 pm6 an6 cd6 ct6), sl6⟩) (c6 : PySem.W.codeIn K cd6 "is_signs" = true) (k6 : PySem.W.keepIn K (.ref f6) = true)
    {f7 : Addr} {od7 an7 : Option Addr} {sl7 : Array (Option Value)} {oc7 kV7 dc7 pm7 cd7 ct7 : Value}
    (a7 : PySem.W.nsIn K mainGlobals "is_state" = some (some (.ref f7))) (l7 : K.lookup f7 = some ⟨oc7, od7, .func (PySem.W.fnOf "is_state" "is_state" (defArgs s_is_state) (defBody s_is_state) (defScope s_is_state) .none kV7 dc7 pm7 an7 cd7 ct7), sl7⟩) (c7 : PySem.W.codeIn K cd7 "is_state" = true) (k7 : PySem.W.keepIn K (.ref f7) = true)
    {f8 : Addr} {od8 an8 : Option Addr} {sl8 : Array (Option Value)} {oc8 kV8 dc8 pm8 cd8 ct8 : Value}
    {t8 : Addr} {tc8 : Value} {td8 : Option Addr} {tn8 : Nat} {ts8 : Array (Option Value)} {u8_0 : Tok} (q8 : K.lookup t8 = some ⟨tc8, td8, .seq #[Value.str "state" u8_0] tn8, ts8⟩)
    (a8 : PySem.W.nsIn K mainGlobals "need_state" = some (some (.ref f8))) (l8 : K.lookup f8 = some ⟨oc8, od8, .func (PySem.W.fnOf "need_state" "need_state" (defArgs s_need_state) (defBody s_need_state) (defScope s_need_state) (.ref t8) kV8 dc8 pm8 an8 cd8 ct8), sl8⟩) (c8 : PySem.W.codeIn K cd8 "need_state" = true) (k8 : PySem.W.keepIn K (.ref f8) = true)
    {f9 : Addr} {od9 an9 : Option Addr} {sl9 : Array (Option Value)} {oc9 kV9 dc9 pm9 cd9 ct9 : Value}
    (a9 : PySem.W.nsIn K mainGlobals "exchanged_in" = some (some (.ref f9))) (l9 : K.lookup f9 = some ⟨oc9, od9, .func (PySem.W.fnOf "exchanged_in" "exchanged_in" (defArgs s_exchanged_in) (defBody s_exchanged_in) (defScope s_exchanged_in) .none kV9 dc9 pm9 an9 cd9 ct9), sl9⟩) (c9 : PySem.W.codeIn K cd9 "exchanged_in" = true) (k9 : PySem.W.keepIn K (.ref f9) = true)
    {f10 : Addr} {od10 an10 : Option Addr} {sl10 : Array (Option Value)} {oc10 kV10 dc10 pm10 cd10 ct10 : Value}
    (a10 : PySem.W.nsIn K mainGlobals "exchanged" = some (some (.ref f10))) (l10 : K.lookup f10 = some ⟨oc10, od10, .func (PySem.W.fnOf "exchanged" "exchanged" (defArgs s_exchanged) (defBody s_exchanged) (defScope s_exchanged) .none kV10 dc10 pm10 an10 cd10 ct10), sl10⟩) (c10 : PySem.W.codeIn K cd10 "exchanged" = true) (k10 : PySem.W.keepIn K (.ref f10) = true)
    {f11 : Addr} {od11 an11 : Option Addr} {sl11 : Array (Option Value)} {oc11 kV11 dc11 pm11 cd11 ct11 : Value}
    (a11 : PySem.W.nsIn K mainGlobals "is_high_in" = some (some (.ref f11))) (l11 : K.lookup f11 = some ⟨oc11, od11, .func (PySem.W.fnOf "is_high_in" "is_high_in" (defArgs s_is_high_in) (defBody s_is_high_in) (defScope s_is_high_in) .none kV11 dc11 pm11 an11 cd11 ct11), sl11⟩) (c11 : PySem.W.codeIn K cd11 "is_high_in" = true) (k11 : PySem.W.keepIn K (.ref f11) = true)
    {f12 : Addr} {od12 an12 : Option Addr} {sl12 : Array (Option Value)} {oc12 kV12 dc12 pm12 cd12 ct12 : Value}
    (a12 : PySem.W.nsIn K mainGlobals "is_high" = some (some (.ref f12))) (l12 : K.lookup f12 = some ⟨oc12, od12, .func (PySem.W.fnOf "is_high" "is_high" (defArgs s_is_high) (defBody s_is_high) (defScope s_is_high) .none kV12 dc12 pm12 an12 cd12 ct12), sl12⟩) (c12 : PySem.W.codeIn K cd12 "is_high" = true) (k12 : PySem.W.keepIn K (.ref f12) = true)
    {f13 : Addr} {od13 an13 : Option Addr} {sl13 : Array (Option Value)} {oc13 kV13 dc13 pm13 cd13 ct13 : Value}
    (a13 : PySem.W.nsIn K mainGlobals "pairs_of" = some (some (.ref f13))) (l13 : K.lookup f13 = some ⟨oc13, od13, .func (PySem.W.fnOf "pairs_of" "pairs_of" (defArgs s_pairs_of) (defBody s_pairs_of) (defScope s_pairs_of) .none kV13 dc13 pm13 an13 cd13 ct13), sl13⟩) (c13 : PySem.W.codeIn K cd13 "pairs_of" = true) (k13 : PySem.W.keepIn K (.ref f13) = true)
    {f14 : Addr} {od14 an14 : Option Addr} {sl14 : Array (Option Value)} {oc14 kV14 dc14 pm14 cd14 ct14 : Value}
    (a14 : PySem.W.nsIn K mainGlobals "_law_heard" = some (some (.ref f14))) (l14 : K.lookup f14 = some ⟨oc14, od14, .func (PySem.W.fnOf "_law_heard" "_law_heard" (defArgs s_law_heard) (defBody s_law_heard) (defScope s_law_heard) .none kV14 dc14 pm14 an14 cd14 ct14), sl14⟩) (c14 : PySem.W.codeIn K cd14 "_law_heard" = true) (k14 : PySem.W.keepIn K (.ref f14) = true)
    {f15 : Addr} {od15 an15 : Option Addr} {sl15 : Array (Option Value)} {oc15 kV15 dc15 pm15 cd15 ct15 : Value}
    (a15 : PySem.W.nsIn K mainGlobals "law" = some (some (.ref f15))) (l15 : K.lookup f15 = some ⟨oc15, od15, .func (PySem.W.fnOf "law" "law" (defArgs s_law) (defBody s_law) (defScope s_law) .none kV15 dc15 pm15 an15 cd15 ct15), sl15⟩) (c15 : PySem.W.codeIn K cd15 "law" = true) (k15 : PySem.W.keepIn K (.ref f15) = true)
    (z_abs : PySem.W.nsIn K mainGlobals "abs" = some none)
    (z_all : PySem.W.nsIn K mainGlobals "all" = some none)
    (z_int : PySem.W.nsIn K mainGlobals "int" = some none)
    (z_isinstance : PySem.W.nsIn K mainGlobals "isinstance" = some none)
    (z_len : PySem.W.nsIn K mainGlobals "len" = some none)
    (z_list : PySem.W.nsIn K mainGlobals "list" = some none)
    (z_max : PySem.W.nsIn K mainGlobals "max" = some none)
    (z_min : PySem.W.nsIn K mainGlobals "min" = some none)
    (z_range : PySem.W.nsIn K mainGlobals "range" = some none)
    (z_repr : PySem.W.nsIn K mainGlobals "repr" = some none)
    (z_str : PySem.W.nsIn K mainGlobals "str" = some none)
    (z_tuple : PySem.W.nsIn K mainGlobals "tuple" = some none)
    {tk_BURNS : Tok} (z_BURNS : PySem.W.nsIn K mainGlobals "BURNS" = some (some (.str "1" tk_BURNS)))
    {tk_DARK : Tok} (z_DARK : PySem.W.nsIn K mainGlobals "DARK" = some (some (.str "0" tk_DARK)))
    {tk_MOST_PAIRS : Tok} (z_MOST_PAIRS : PySem.W.nsIn K mainGlobals "MOST_PAIRS" = some (some (.int 200 tk_MOST_PAIRS)))
    {tk_SIGNS : Tok} (z_SIGNS : PySem.W.nsIn K mainGlobals "SIGNS" = some (some (.str "01" tk_SIGNS)))
    {CH : Addr} (xaH : PySem.W.nsIn K mainGlobals "HalfError" = some (some (.ref CH))) (xeH : PySem.W.subIn K (.ref CH) (.type "BaseException") = some true) (xiH : PySem.W.isClsIn K CH = true) (xtH : PySem.W.typeIn K (.ref CH) = some (.type "type")) (xnH : PySem.W.subIn K (.type "NoneType") (.ref CH) = some false) (xsH : PySem.W.subIn K (.ref CH) (.ref CH) = some true)
    (xop : PySem.W.nsIn K cStatics "thirdparty.any" = some none) (xmS : PySem.W.nsIn K mainGlobals "super" = some none) (xhn : PySem.W.specialIn K (.builtin "object.__class__") "__get__" = some (some (.builtin "getset_descriptor.__get__"))) (xht : PySem.W.takesIn K (.builtin "object.__class__") = some true) (xtop : (l.prog.main.scope.names.lookup ("super" : Str)).isSome = false)
    {CBadState fIBadState cdaBadState ccBadState NBadState : Addr} {nmBadState qBadState : Str} {bsBadState subBadState : List Value} {snBadState : List Str} {abBadState : Bool} {colBadState : Option Bool} {ddBadState odBadState anBadState xdBadState ydBadState : Option Addr} {m0BadState m1BadState m2BadState m3BadState m5BadState : Option Value} {ocBadState kVBadState dcBadState pmBadState ctBadState xcBadState ycBadState : Value} {slBadState xsBadState ysBadState : Array (Option Value)} {vsBadState : Array Value} {fileBadState : Str} {tfBadState : Tok}
    (xaBadState : PySem.W.nsIn K mainGlobals "BadState" = some (some (.ref CBadState))) (xxBadState : K.lookup CBadState = some (excClassObj nmBadState qBadState CBadState NBadState bsBadState [.ref CH, .type "ValueError", .type "Exception", .type "BaseException", .type "object"] true snBadState subBadState abBadState colBadState ddBadState m0BadState m1BadState m2BadState m3BadState m5BadState "ValueError.__new__"))
    (xsaBadState : PySem.W.findIn K (.ref CBadState) "__setattr__" = some (some (.builtin "object.__setattr__"))) (xgaBadState : PySem.W.findIn K (.ref CBadState) "__getattribute__" = some (some (.builtin "BaseException.__getattribute__"))) (xggBadState : PySem.W.findIn K (.ref CBadState) "__getattr__" = some none) (xhaBadState : PySem.W.findIn K (.ref CBadState) "__class__" = some (some (.builtin "object.__class__")))
    (xiBadState : PySem.W.findIn K (.ref CBadState) "__init__" = some (some (.ref fIBadState))) (xtBadState : PySem.W.typeIn K (.ref fIBadState) = some (.type "function")) (xlBadState : K.lookup fIBadState = some ⟨ocBadState, odBadState, .func (PySem.W.ksFn "__init__" "BadState.__init__" (defArgs s_iBadState) (defBody s_iBadState) (defScope s_iBadState) .none kVBadState dcBadState pmBadState anBadState (.ref cdaBadState) ctBadState ccBadState), slBadState⟩) (xc1BadState : PySem.W.codeIn K (.ref cdaBadState) "BadState.__init__" = true)
    (xlcBadState : K.lookup cdaBadState = some ⟨xcBadState, xdBadState, .fields vsBadState, xsBadState⟩) (xv2BadState : vsBadState[2]? = some (.str fileBadState tfBadState)) (xflBadState : ((l.prog.main.file : Str) == fileBadState) = true) (xccBadState : K.lookup ccBadState = some ⟨ycBadState, ydBadState, .cell (some (.ref CBadState)), ysBadState⟩)
    (xkCBadState : PySem.W.keepIn K (.ref CBadState) = true) (xeCBadState : PySem.W.subIn K (.ref CBadState) (.type "BaseException") = some true) (xtCBadState : PySem.W.typeIn K (.ref CBadState) = some (.type "type")) (xhCBadState : PySem.W.hasDictIn K CBadState = true) (xiCBadState : PySem.W.isClsIn K CBadState = true) (xmoBadState : PySem.W.mroIn K CBadState (.type "object") = some true) (xmCBadState : PySem.W.mroIn K CBadState (.ref CBadState) = some true) (xsBBadState : PySem.W.subIn K (.ref CBadState) (.type "ValueError") = some true) (xsuBadState : PySem.W.ks_superIn K CBadState CBadState "__init__" = some (some (.builtin "ValueError.__init__"))) (xsHBadState : PySem.W.subIn K (.ref CBadState) (.ref CH) = some true)
    (xfBadState_part : PySem.W.findIn K (.ref CBadState) "part" = some none)
    (ynBadState : PySem.W.subIn K (.type "NoneType") (.ref CBadState) = some false) (yyBadState : PySem.W.subIn K (.ref CBadState) (.ref CBadState) = some true)
    : ∃ (fd : FuncData) (cs : List (Str × Addr × Addr)), (∀ p ∈ cs, p.1 ∈ ([] : List Str) ∧ PySem.W.tabIn K p.1 = some p.2) ∧ (∀ (s : Shared) (v : Value), BindsTo s fd ⟨[v], []⟩ [("_law_script", v)]) ∧ ∀ base : Heap, K.In base → base.Ns mainGlobals mg → (∀ p ∈ cs, LamX.TabB base mg p.2.1 p.2.2) → FnG l.prog w K mg base CX0 6 fa fd ["_law_script"] (spLaw K (tbOf cs)) := by
  have e := hfa.symm.trans (PySem.W.mg_of X G a15)
  cases e
  have T : Txt K mg := ⟨PySem.W.mg_none_of X G z_abs, PySem.W.mg_none_of X G z_all, PySem.W.mg_none_of X G z_int, PySem.W.mg_none_of X G z_isinstance, PySem.W.mg_none_of X G z_len, PySem.W.mg_none_of X G z_list, PySem.W.mg_none_of X G z_max, PySem.W.mg_none_of X G z_min, PySem.W.mg_none_of X G z_range, PySem.W.mg_none_of X G z_repr, PySem.W.mg_none_of X G z_str, PySem.W.mg_none_of X G z_tuple, ⟨_, PySem.W.mg_of X G z_BURNS⟩, ⟨_, PySem.W.mg_of X G z_DARK⟩, ⟨_, PySem.W.mg_of X G z_MOST_PAIRS⟩, ⟨_, PySem.W.mg_of X G z_SIGNS⟩⟩
  have F0 := fun_mk (st := s_mk) l0 c0 k0
  have D0 : Def K mg "_law_lampshop" s_mk ["_law_script"] _ _ := ⟨F0, PySem.W.mg_of X G a0, F0.binds (ps := ["_law_script"]) fun _ _ _ _ _ _ us hl => match us, hl with | [_], _ => rfl, a0⟩
  have F1 := fun_mk (st := s_tick) l1 c1 k1
  have D1 : Def K mg "_law_glow" s_tick ["_law_lampshop_here", "_law_many"] _ _ := ⟨F1, PySem.W.mg_of X G a1, F1.binds (ps := ["_law_lampshop_here", "_law_many"]) fun _ _ _ _ _ _ us hl => match us, hl with | [_, _], _ => rfl, a1⟩
  have F2 := fun_mk (st := s_dial) l2 c2 k2
  have D2 : Def K mg "_law_one" s_dial ["_law_lampshop_here", "_law_some"] _ _ := ⟨F2, PySem.W.mg_of X G a2, F2.binds (ps := ["_law_lampshop_here", "_law_some"]) fun _ _ _ _ _ _ us hl => match us, hl with | [_, _], _ => rfl, a2⟩
  have F3 := fun_mk (st := s_law_signs) l3 c3 k3
  have D3 : Def K mg "_law_signs" s_law_signs ["_law_lampshop_here"] _ _ := ⟨F3, PySem.W.mg_of X G a3, F3.binds (ps := ["_law_lampshop_here"]) fun _ _ _ _ _ _ us hl => match us, hl with | [_], _ => rfl, a3⟩
  have F4 := fun_mk (st := s_law_is_state) l4 c4 k4
  have D4 : Def K mg "_law_is_state" s_law_is_state ["_law_value"] _ _ := ⟨F4, PySem.W.mg_of X G a4, F4.binds (ps := ["_law_value"]) fun _ _ _ _ _ _ us hl => match us, hl with | [_], _ => rfl, a4⟩
  have F5 := fun_mk (st := s_burning) l5 c5 k5
  have D5 : Def K mg "burning" s_burning ["signs"] _ _ := ⟨F5, PySem.W.mg_of X G a5, F5.binds (ps := ["signs"]) fun _ _ _ _ _ _ us hl => match us, hl with | [_], _ => rfl, a5⟩
  have F6 := fun_mk (st := s_is_signs) l6 c6 k6
  have D6 : Def K mg "is_signs" s_is_signs ["value"] _ _ := ⟨F6, PySem.W.mg_of X G a6, F6.binds (ps := ["value"]) fun _ _ _ _ _ _ us hl => match us, hl with | [_], _ => rfl, a6⟩
  have F7 := fun_mk (st := s_is_state) l7 c7 k7
  have D7 : Def K mg "is_state" s_is_state ["value"] _ _ := ⟨F7, PySem.W.mg_of X G a7, F7.binds (ps := ["value"]) fun _ _ _ _ _ _ us hl => match us, hl with | [_], _ => rfl, a7⟩
  have F8 : FunD K "need_state" "need_state" (defArgs s_need_state) (defBody s_need_state) (defScope s_need_state) [.str "state"] [] f8 _ := ⟨⟨oc8, od8, .ref t8, kV8, dc8, pm8, an8, cd8, ct8, sl8, rfl, l8, c8, .inr ⟨by simp, t8, _, [Value.str "state" u8_0], tn8, rfl, q8, rfl, .cons ⟨_, rfl⟩ (.nil)⟩, .inl rfl⟩, k8⟩
  have D8 : DefQ K mg "need_state" s_need_state [.str "state"] _ _ := ⟨F8, PySem.W.mg_of X G a8, a8⟩
  obtain ⟨ds8_1, B8_1⟩ := F8.binds1 (ps := ["value", "part"]) 1 0 (by simp) rfl (fun T kV doc pm an cdv ct us its h1 h2 => match us, its, h1, h2 with | [_], [_], _, _ => ⟨_, rfl, rfl⟩)
  have F9 := fun_mk (st := s_exchanged_in) l9 c9 k9
  have D9 : Def K mg "exchanged_in" s_exchanged_in ["state"] _ _ := ⟨F9, PySem.W.mg_of X G a9, F9.binds (ps := ["state"]) fun _ _ _ _ _ _ us hl => match us, hl with | [_], _ => rfl, a9⟩
  have F10 := fun_mk (st := s_exchanged) l10 c10 k10
  have D10 : Def K mg "exchanged" s_exchanged ["state"] _ _ := ⟨F10, PySem.W.mg_of X G a10, F10.binds (ps := ["state"]) fun _ _ _ _ _ _ us hl => match us, hl with | [_], _ => rfl, a10⟩
  have F11 := fun_mk (st := s_is_high_in) l11 c11 k11
  have D11 : Def K mg "is_high_in" s_is_high_in ["state"] _ _ := ⟨F11, PySem.W.mg_of X G a11, F11.binds (ps := ["state"]) fun _ _ _ _ _ _ us hl => match us, hl with | [_], _ => rfl, a11⟩
  have F12 := fun_mk (st := s_is_high) l12 c12 k12
  have D12 : Def K mg "is_high" s_is_high ["state"] _ _ := ⟨F12, PySem.W.mg_of X G a12, F12.binds (ps := ["state"]) fun _ _ _ _ _ _ us hl => match us, hl with | [_], _ => rfl, a12⟩
  have F13 := fun_mk (st := s_pairs_of) l13 c13 k13
  have D13 : Def K mg "pairs_of" s_pairs_of ["state"] _ _ := ⟨F13, PySem.W.mg_of X G a13, F13.binds (ps := ["state"]) fun _ _ _ _ _ _ us hl => match us, hl with | [_], _ => rfl, a13⟩
  have F14 := fun_mk (st := s_law_heard) l14 c14 k14
  have D14 : Def K mg "_law_heard" s_law_heard ["_law_ask", "_law_value"] _ _ := ⟨F14, PySem.W.mg_of X G a14, F14.binds (ps := ["_law_ask", "_law_value"]) fun _ _ _ _ _ _ us hl => match us, hl with | [_, _], _ => rfl, a14⟩
  have F15 := fun_mk (st := s_law) l15 c15 k15
  have D15 : Def K mg "law" s_law ["_law_script"] _ _ := ⟨F15, PySem.W.mg_of X G a15, F15.binds (ps := ["_law_script"]) fun _ _ _ _ _ _ us hl => match us, hl with | [_], _ => rfl, a15⟩
  refine ⟨PySem.W.fnOf "law" "law" (defArgs s_law) (defBody s_law) (defScope s_law) .none kV15 dc15 pm15 an15 cd15 ct15, [], (by
    intro p hp
    simp only [List.mem_cons, List.not_mem_nil, or_false] at hp
    try exact absurd hp id), fun s v => .of_eq rfl, fun base _ _ hT => ?_⟩
  have OEBadState : OexC K CBadState := ⟨⟨nmBadState, qBadState, NBadState, bsBadState, _, snBadState, subBadState, abBadState, colBadState, ddBadState, m0BadState, m1BadState, m2BadState, m3BadState, m5BadState, xxBadState, rfl⟩, xsaBadState, xeCBadState, xtCBadState, xkCBadState⟩
  have ICBadState : IniC l.prog K mg CBadState fIBadState "BadState.__init__" (defArgs s_iBadState) (defBody s_iBadState) (defScope s_iBadState) _ := ⟨OEBadState, xiBadState, xtBadState, ⟨_, _, _, _, _, _, cdaBadState, _, ccBadState, _, rfl, xlBadState, xc1BadState, ⟨_, _, _, _, _, _, xlcBadState, xv2BadState, xflBadState⟩, _, _, _, xccBadState⟩, xsuBadState, xsBBadState, xmCBadState, xop, PySem.W.mg_none_of X G xmS⟩
  have CLBadState := cl_BadState (P := l.prog) (w := w) (base := base) ICBadState xaBadState (PySem.W.mg_of X G xaBadState) xtop xfBadState_part
  have EIBadState : ExI K CBadState := exI_of xiCBadState xgaBadState xggBadState xeCBadState xhaBadState xhn xht xmoBadState xhCBadState
  have XH : ExH K mg "HalfError" CH [2] := ⟨PySem.W.mg_of X G xaH, by
    intro c hp C hC
    simp only [List.mem_cons, List.not_mem_nil, or_false] at hp
    rcases hp with rfl
    · have z : C = CBadState := Glo.inj hC xaBadState
      subst z
      exact exm_of xeH xiH xtH xsHBadState⟩
  have ISBadState : IsF K mg "BadState" CBadState [(2, true)] := ⟨PySem.W.mg_of X G xaBadState, xiCBadState, xtCBadState, ynBadState, yyBadState, by
    intro p hp C hC
    simp only [List.mem_cons, List.not_mem_nil, or_false] at hp
    rcases hp with rfl
    · have z : C = CBadState := Glo.inj hC xaBadState
      subst z
      exact ⟨EIBadState, yyBadState⟩⟩
  have ATpart : AtF K "part" [2] := ⟨by
    intro c hp C hC
    simp only [List.mem_cons, List.not_mem_nil, or_false] at hp
    rcases hp with rfl
    · have z : C = CBadState := Glo.inj hC xaBadState
      subst z
      exact ⟨EIBadState, xfBadState_part⟩⟩
  have G0 := ok_mk (P := l.prog) (w := w) (base := base) T D0 
  have G1 := ok_tick (P := l.prog) (w := w) (base := base) (TB := (tbOf [])) T D1 
  have G2 := ok_dial (P := l.prog) (w := w) (base := base) (TB := (tbOf [])) T D2 D1 G1
  have G3 := ok_law_signs (P := l.prog) (w := w) (base := base) (TB := (tbOf [])) T D3 D2 G2 D1 G1
  have G4 := ok_law_is_state (P := l.prog) (w := w) (base := base) (TB := (tbOf [])) T D4 
  have G5 := ok_burning (P := l.prog) (w := w) (base := base) (TB := (tbOf [])) T D5 
  have G6 := ok_is_signs (P := l.prog) (w := w) (base := base) (TB := (tbOf [])) T D6 
  have G7 := ok_is_state (P := l.prog) (w := w) (base := base) (TB := (tbOf [])) T D7 D6 G6 D5 G5
  have GX8 := ok_need_state (P := l.prog) (w := w) (base := base) (TB := (tbOf [])) T D8 D7 G7 CLBadState
  have G8 : FnG l.prog w K mg base CX0 3 f8 _ ["value", "part"] (spP K (tbOf []) 2 T_need_state) := GX8.x0
  have G9 := ok_exchanged_in (P := l.prog) (w := w) (base := base) (TB := (tbOf [])) T D9 
  have GX10 := ok_exchanged (P := l.prog) (w := w) (base := base) (TB := (tbOf [])) T D10 D8 G8 D9 G9 B8_1 GX8
  have G10 : FnG l.prog w K mg base CX0 4 f10 _ ["state"] (spP K (tbOf []) 1 T_exchanged) := GX10.x0
  have G11 := ok_is_high_in (P := l.prog) (w := w) (base := base) (TB := (tbOf [])) T D11 D5 G5
  have GX12 := ok_is_high (P := l.prog) (w := w) (base := base) (TB := (tbOf [])) T D12 D8 G8 D11 G11 B8_1 GX8
  have G12 : FnG l.prog w K mg base CX0 4 f12 _ ["state"] (spP K (tbOf []) 1 T_is_high) := GX12.x0
  have GX13 := ok_pairs_of (P := l.prog) (w := w) (base := base) (TB := (tbOf [])) T D13 D8 G8 B8_1 GX8
  have G13 : FnG l.prog w K mg base CX0 4 f13 _ ["state"] (spP K (tbOf []) 1 T_pairs_of) := GX13.x0
  have HV_1 : ∀ p ∈ tab_1, FnV l.prog w K mg base (tbOf []) 4 1 p.1 p.2 := by
    intro p hp
    unfold tab_1 at hp
    simp only [List.mem_cons, List.not_mem_nil, or_false] at hp
    rcases hp with rfl | rfl | rfl
    · exact ⟨⟨_, _, _, a13, k13, D13.bd, (GX13).up (by decide)⟩⟩
    · exact ⟨⟨_, _, _, a12, k12, D12.bd, (GX12).up (by decide)⟩⟩
    · exact ⟨⟨_, _, _, a10, k10, D10.bd, (GX10).up (by decide)⟩⟩
  have G14 := ok_law_heard (P := l.prog) (w := w) (base := base) (TB := (tbOf [])) T D14 XH ISBadState ATpart HV_1
  exact ok_law (TB := (tbOf [])) hplain T D15 D0 G0 D3 G3 D2 G2 D1 G1 D4 G4 D7 G7 D14 G14 D10 G10 D12 G12 D13 G13
end L2.DL.k18

set_option Elab.async false
set_option linter.all false
set_option autoImplicit false
set_option maxRecDepth 100000
set_option maxHeartbeats 4000000
namespace L2.DL.k18
open PySem
local macro_rules | `(tactic| walk_at "w") => `(tactic| try simp -implicitDefEqProofs only [wP, wPx, e_Raise, e_Try, wCallX, wCallV, wAct, wIsE, wIsE2, wAtE, isE2_n, isE2_x, isE_n, isE_x, atE_x, am_nil, am_cons, mo_s, kept_c, mask_c, mask_n, maskS_v, maskS_no, maskS_g, maskS_ow, maskS_lam, maskS_scr, ngx_scr, calm_scr, wScr, maskS_q, still_q, still_lam, still_gau, List.reverse_cons, List.reverse_nil, List.all_cons, List.all_nil, Bool.and_true, Bool.true_and, List.mem_cons, List.not_mem_nil, or_false, false_or, Prod.mk.injEq, forall_eq_or_imp, forall_eq, List.zip_cons_cons, List.zip_nil_left, List.zip_nil_right, List.lookup_cons, wG, e_Open, e_Seq, e_IfS, wB, wBin, wGx, wC, e_Set, e_Ret, wB1, wCons, wNil, wVar, e_Next, e_GxSet, wAnd, wOr, wUn, wTup, wLst, e_Pass, wIf, wTru, wNot, wNotV, wAndV, wOrV, e_Drop, wCall, wCallG, wCallK, wIsi, wLc, e_For, e_Asg, e_Par, e_Par3, wChain, wSl, wPart, wNoP, wMt, wDict1, wIter, wRng1, wRng2, e_SetL, e_SetO, wLstO, e_App, e_Frz, e_RetN, e_Never, e_Brk, e_Cnt, gN, gT, gTA, gCs, gNl, wComp, wComp2, wipeE, tYesG, perm_0, perm_01, perm_10, perm_012, perm_021, perm_102, perm_120, perm_201, perm_210, perm_0123, perm_0132, perm_0213, perm_0231, perm_0312, perm_0321, perm_1023, perm_1032, perm_1203, perm_1230, perm_1302, perm_1320, perm_2013, perm_2031, perm_2103, perm_2130, perm_2301, perm_2310, perm_3012, perm_3021, perm_3102, perm_3120, perm_3201, perm_3210, beq_self_eq_true, sz_0, sz_1, sz_2, sz_3, sz_4, sz_5, sz_6, sz_7, sz_8, sz_9, sz_10, sz_11, sz_12, sz_13, sz_14, sz_15, sz_16, sz_17, sz_18, sz_19, sz_20, sz_21, sz_22, sz_23, sz_24, sz_25, sz_26, sz_27, sz_28, sz_29, sz_30, sz_31, sz_32, sz_33, sz_34, sz_35, sz_36, sz_37, sz_38, sz_39, sz_40, Nat.reduceLeDiff, Int.reducePow, Int.reduceLE, Int.reduceLT, reprD_bb, reprD_b, addD_i, addD_s, addD_l, addD_t, subD_i, mulD_i, mulD_s, mulD_l, fdivD_i, modD_i, powD_i, negD_i, shlD_i, shrD_i, ltD_i, leD_i, gtD_i, geD_i, ltD_s, gtD_s, isD_n, isntD_n, one_1, intD_i, intD_b, absD_i, lenD_s, lenD_l, lenD_t, strD_i, ixD_l, ixD_t, ixD_s, slD_s, slD_l, slD_t, inD_s, notinD_s, inD_l, inD_t, notinD_l, notinD_t, eqb_i, eqb_s, eqb_b, eqOk_i, eqOk_s, eqOk_b, eqD, neD, toTupD_s, toLstD_s, toTupD_l, toTupD_t, toLstD_l, toLstD_t, joinD_l, countD_s, startswithD_s, allD_l, revD_s, revD_l, wRng3, wEnum, wZip, wZipA, maxI2_i, dvmD_i, zipA_s, zipA_l, enumD, zipD, D.isN, D.items, lit_e, lit_em, lit_1, lit_0, lit_10, lit_01, lit_110, lit_101, S_app, S_len, S_cut, S_signs, S_rev, S_mul, S_beq, S_count, S_in, js_nil, js_cons, wJs, fmtD_s, fmtD_i, setA_nil, setA_v, setA_o, e_ParO, wConsO, wConsV, wNilO, e_Asg2, wIxo, wLenO, wLenSetT, wStar, e_Aug, e_Pop, e_PopTo, e_SetIt, e_Swap, e_NewD, e_PutO, e_FrzD, wConsD, wInOD, wGetOD, wIndex, e_Ext, wCatO, wMulO, eqb_self, eqOk_self, sgn, gxAt, oneGx, noGx, noOwn, ngx_q, calm_q, ngx_gau, ngx_own, ngx_gx, calm_gau, D.tru, D.truOk, D.nf, D.isF, kInt, kBool, kStr, kList, kTuple, kDict, D.key, List.map_cons, List.map_nil, List.replicate, List.reduceReplicate, List.flatten_cons, List.flatten_nil, Nat.reduceMul, Int.reduceToNat, List.cons_append, List.nil_append, List.append_nil, List.getElem?_cons_zero, List.getElem?_cons_succ, List.set_cons_zero, List.set_cons_succ, List.length_cons, List.length_nil, List.length_append, List.length_map, List.length_reverse, List.length_range, List.length_replicate, Option.some.injEq, Sl.val.injEq, Sl.gx.injEq, Sl.ow.injEq, OT.l.injEq, OT.d.injEq, D.int.injEq, D.bl.injEq, D.str.injEq, D.lst.injEq, D.tup.injEq, List.cons.injEq, exists_eq_left', exists_eq_left, and_true, true_and, and_self, or_true, true_or, reduceCtorEq, Int.reduceEq, reduceIte, Nat.reduceAdd, Nat.reduceEqDiff, false_and, and_false, false_or, or_false, exists_const, exists_and_left, exists_and_right, and_assoc, exists_eq', decide_eq_true_eq, decide_eq_false_iff_not, Bool.and_true, Bool.true_and, Bool.not_true, Bool.not_false, Bool.false_eq_true, if_true, if_false, ite_true, ite_false, not_true_eq_false, not_false_eq_true, Int.reduceNeg, Bool.and_self])
local macro_rules | `(tactic| walk_at "c") => `(tactic| first | assumption | exact Nat.zero_le _ | (with_reducible decide) | (simp only [List.length_cons, List.length_nil]; omega) | omega | decide | (unfold CPow; decide) | (simp only [List.length_cons, List.length_nil]; decide))
local macro_rules | `(tactic| walk_at "rq") => `(tactic| (repeat (first | exact Rest.nil | refine Rest.cons inferInstance ?_)))
local macro_rules | `(tactic| walk_at "sz") => `(tactic| (repeat (refine And.intro (by omega) ?_)))
local macro_rules | `(tactic| walk_at "u_tick") => `(tactic| simp only [T_tick, b_tick, l_tick_6, l_tick_5, l_tick_13, l_tick_12, l_tick_16, l_tick_15, l_tick_14, l_tick_10, l_tick_9, l_tick_8, l_tick_7, l_tick_3])
local macro_rules | `(tactic| walk_at "u_dial") => `(tactic| simp only [T_dial, b_dial])
local macro_rules | `(tactic| walk_at "u_law_signs") => `(tactic| simp only [T_law_signs, b_law_signs, l_law_signs_6, l_law_signs_5, l_law_signs_7, l_law_signs_4, l_law_signs_3, l_law_signs_2])
local macro_rules | `(tactic| walk_at "u_law_is_state") => `(tactic| simp only [T_law_is_state, b_law_is_state, l_law_is_state_4, l_law_is_state_3])
local macro_rules | `(tactic| walk_at "u_burning") => `(tactic| simp only [T_burning, b_burning])
local macro_rules | `(tactic| walk_at "u_is_signs") => `(tactic| simp only [T_is_signs, b_is_signs])
local macro_rules | `(tactic| walk_at "u_is_state") => `(tactic| simp only [T_is_state, b_is_state, l_is_state_3])
local macro_rules | `(tactic| walk_at "u_need_state") => `(tactic| simp only [T_need_state, T_need_statex, wPx, b_need_state])
local macro_rules | `(tactic| walk_at "u_exchanged_in") => `(tactic| simp only [T_exchanged_in, b_exchanged_in])
local macro_rules | `(tactic| walk_at "u_exchanged") => `(tactic| simp only [T_exchanged, T_exchangedx, wPx, b_exchanged, l_exchanged_2])
local macro_rules | `(tactic| walk_at "u_is_high_in") => `(tactic| simp only [T_is_high_in, b_is_high_in])
local macro_rules | `(tactic| walk_at "u_is_high") => `(tactic| simp only [T_is_high, T_is_highx, wPx, b_is_high, l_is_high_2])
local macro_rules | `(tactic| walk_at "u_pairs_of") => `(tactic| simp only [T_pairs_of, T_pairs_ofx, wPx, b_pairs_of, l_pairs_of_2])
local macro_rules | `(tactic| walk_at "u_law_heard") => `(tactic| simp only [T_law_heard, b_law_heard, l_law_heard_8, l_law_heard_6, l_law_heard_2])
local macro_rules | `(tactic| walk_at "u_law") => `(tactic| simp only [b_law, l_law_13, l_law_18, l_law_17, l_law_15, l_law_14, l_law_10, l_law_8, l_law_7, l_law_6, l_law_5, l_law_4, l_law_3, l_law_20])
variable {xc : XD → Prop}
local macro_rules | `(tactic| walk_at "tk") => `(tactic| (repeat' (first | with_reducible apply And.intro | split)))
local macro_rules | `(tactic| walk_at "tf") => `(tactic| first
  | assumption
  | exact cpow_18
  | exact fdiv_of (by decide) (by decide)
  | exact mix_1 (by assumption) (by omega) (by decide) (by decide) (by decide) (by decide) (by decide) (by decide)
  | exact mix_2 (by assumption) (by omega) (by decide) (by decide) (by decide) (by decide) (by decide) (by decide) (by decide) (by decide)
  | exact cmul_l (by decide) (by decide)
  | exact cmul_r (by omega) (by omega)
  | decide
  | omega
  | exact Int.emod_nonneg _ (by omega)
  | exact Int.emod_lt_of_pos _ (by omega)
  | exact Int.ediv_nonneg (by omega) (by omega)
  | exact Int.ediv_nonneg (by split <;> split <;> omega) (by omega))
theorem tick_okF {many : Int} {c : Nat} {P : D → Nat → Prop} (h0 : 0 < many) (hf : FDiv many) (hc : c < 2 ^ 21) (h : ∀ r, 0 ≤ r → r < many → P (.int r) (c + 1)) : T_tick [.int many] c P := by
  walk_at "u_tick"
  walk_at "w"
  intro cs a r hi ha hac hr
  have hz : (0 : Nat) ≤ sizeLine := Nat.zero_le _
  have hm : max (c + 1) (a + 1).toNat = c + 1 := by omega
  have hP : ∀ x : Int, P (.int (x % many)) (c + 1) := fun x => h _ (Int.emod_nonneg _ (by omega)) (Int.emod_lt_of_pos _ h0)
  have hP0 : P (.int 0) (c + 1) := h 0 (Int.le_refl _) h0
  have hq := ints_eqOk hi
  rw [hm, eqb_nil]
  cases hcs : cs with
  | nil =>
    subst hcs
    simp only [List.isEmpty_nil]
    walk_at "w"
    walk_at "tk"
    all_goals (try exact hP _)
    all_goals (try exact hP0)
    all_goals (try walk_at "tf")
  | cons d ds =>
    rw [hcs] at hi hq
    have hl : 0 < ((d :: ds).length : Int) := by rw [List.length_cons]; omega
    simp only [List.isEmpty_cons]
    walk_at "tk"
    all_goals (try exact hP _)
    all_goals (try exact hP0)
    all_goals (try walk_at "tf")
    all_goals (refine at_ints hi (Int.emod_nonneg _ (by omega)) (Int.emod_lt_of_pos _ hl) fun n => ?_)
    all_goals walk_at "w"
    all_goals walk_at "tk"
    all_goals (try exact hP _)
    all_goals (try exact hP0)
    all_goals (try walk_at "tf")
theorem tick_ok {many : Int} {c : Nat} {P : D → Nat → Prop} (h0 : 0 < many) (h1 : many ≤ 1000000000000000000000000000000000000000000) (hc : c < 2 ^ 21) (h : ∀ r, 0 ≤ r → r < many → P (.int r) (c + 1)) : T_tick [.int many] c P := tick_okF h0 (fdiv_of h0 h1) hc h

theorem dial_ok {ds : List D} {c : Nat} {P : D → Nat → Prop} (h0 : 0 < ds.length) (h1 : ds.length ≤ 1000000) (hc : c < 2 ^ 21) (h : ∀ d ∈ ds, P d (c + 1)) : T_dial [.lst ds] c P := by
  walk_at "u_dial"
  walk_at "w"
  refine tick_ok (by omega) (by omega) hc fun r r0 r1 => ?_
  walk_at "w"
  exact at_list r0 r1 h


end L2.DL.k18

set_option Elab.async false
set_option linter.all false
set_option autoImplicit false
set_option maxRecDepth 100000
set_option maxHeartbeats 4000000
namespace L2.DL.k18
open PySem
local macro_rules | `(tactic| walk_at "w") => `(tactic| try simp -implicitDefEqProofs only [wP, wPx, e_Raise, e_Try, wCallX, wCallV, wAct, wIsE, wIsE2, wAtE, isE2_n, isE2_x, isE_n, isE_x, atE_x, am_nil, am_cons, mo_s, kept_c, mask_c, mask_n, maskS_v, maskS_no, maskS_g, maskS_ow, maskS_lam, maskS_scr, ngx_scr, calm_scr, wScr, maskS_q, still_q, still_lam, still_gau, List.reverse_cons, List.reverse_nil, List.all_cons, List.all_nil, Bool.and_true, Bool.true_and, List.mem_cons, List.not_mem_nil, or_false, false_or, Prod.mk.injEq, forall_eq_or_imp, forall_eq, List.zip_cons_cons, List.zip_nil_left, List.zip_nil_right, List.lookup_cons, wG, e_Open, e_Seq, e_IfS, wB, wBin, wGx, wC, e_Set, e_Ret, wB1, wCons, wNil, wVar, e_Next, e_GxSet, wAnd, wOr, wUn, wTup, wLst, e_Pass, wIf, wTru, wNot, wNotV, wAndV, wOrV, e_Drop, wCall, wCallG, wCallK, wIsi, wLc, e_For, e_Asg, e_Par, e_Par3, wChain, wSl, wPart, wNoP, wMt, wDict1, wIter, wRng1, wRng2, e_SetL, e_SetO, wLstO, e_App, e_Frz, e_RetN, e_Never, e_Brk, e_Cnt, gN, gT, gTA, gCs, gNl, wComp, wComp2, wipeE, tYesG, perm_0, perm_01, perm_10, perm_012, perm_021, perm_102, perm_120, perm_201, perm_210, perm_0123, perm_0132, perm_0213, perm_0231, perm_0312, perm_0321, perm_1023, perm_1032, perm_1203, perm_1230, perm_1302, perm_1320, perm_2013, perm_2031, perm_2103, perm_2130, perm_2301, perm_2310, perm_3012, perm_3021, perm_3102, perm_3120, perm_3201, perm_3210, beq_self_eq_true, sz_0, sz_1, sz_2, sz_3, sz_4, sz_5, sz_6, sz_7, sz_8, sz_9, sz_10, sz_11, sz_12, sz_13, sz_14, sz_15, sz_16, sz_17, sz_18, sz_19, sz_20, sz_21, sz_22, sz_23, sz_24, sz_25, sz_26, sz_27, sz_28, sz_29, sz_30, sz_31, sz_32, sz_33, sz_34, sz_35, sz_36, sz_37, sz_38, sz_39, sz_40, Nat.reduceLeDiff, Int.reducePow, Int.reduceLE, Int.reduceLT, reprD_bb, reprD_b, addD_i, addD_s, addD_l, addD_t, subD_i, mulD_i, mulD_s, mulD_l, fdivD_i, modD_i, powD_i, negD_i, shlD_i, shrD_i, ltD_i, leD_i, gtD_i, geD_i, ltD_s, gtD_s, isD_n, isntD_n, one_1, intD_i, intD_b, absD_i, lenD_s, lenD_l, lenD_t, strD_i, ixD_l, ixD_t, ixD_s, slD_s, slD_l, slD_t, inD_s, notinD_s, inD_l, inD_t, notinD_l, notinD_t, eqb_i, eqb_s, eqb_b, eqOk_i, eqOk_s, eqOk_b, eqD, neD, toTupD_s, toLstD_s, toTupD_l, toTupD_t, toLstD_l, toLstD_t, joinD_l, countD_s, startswithD_s, allD_l, revD_s, revD_l, wRng3, wEnum, wZip, wZipA, maxI2_i, dvmD_i, zipA_s, zipA_l, enumD, zipD, D.isN, D.items, lit_e, lit_em, lit_1, lit_0, lit_10, lit_01, lit_110, lit_101, S_app, S_len, S_cut, S_signs, S_rev, S_mul, S_beq, S_count, S_in, js_nil, js_cons, wJs, fmtD_s, fmtD_i, setA_nil, setA_v, setA_o, e_ParO, wConsO, wConsV, wNilO, e_Asg2, wIxo, wLenO, wLenSetT, wStar, e_Aug, e_Pop, e_PopTo, e_SetIt, e_Swap, e_NewD, e_PutO, e_FrzD, wConsD, wInOD, wGetOD, wIndex, e_Ext, wCatO, wMulO, eqb_self, eqOk_self, sgn, gxAt, oneGx, noGx, noOwn, ngx_q, calm_q, ngx_gau, ngx_own, ngx_gx, calm_gau, D.tru, D.truOk, D.nf, D.isF, kInt, kBool, kStr, kList, kTuple, kDict, D.key, List.map_cons, List.map_nil, List.replicate, List.reduceReplicate, List.flatten_cons, List.flatten_nil, Nat.reduceMul, Int.reduceToNat, List.cons_append, List.nil_append, List.append_nil, List.getElem?_cons_zero, List.getElem?_cons_succ, List.set_cons_zero, List.set_cons_succ, List.length_cons, List.length_nil, List.length_append, List.length_map, List.length_reverse, List.length_range, List.length_replicate, Option.some.injEq, Sl.val.injEq, Sl.gx.injEq, Sl.ow.injEq, OT.l.injEq, OT.d.injEq, D.int.injEq, D.bl.injEq, D.str.injEq, D.lst.injEq, D.tup.injEq, List.cons.injEq, exists_eq_left', exists_eq_left, and_true, true_and, and_self, or_true, true_or, reduceCtorEq, Int.reduceEq, reduceIte, Nat.reduceAdd, Nat.reduceEqDiff, false_and, and_false, false_or, or_false, exists_const, exists_and_left, exists_and_right, and_assoc, exists_eq', decide_eq_true_eq, decide_eq_false_iff_not, Bool.and_true, Bool.true_and, Bool.not_true, Bool.not_false, Bool.false_eq_true, if_true, if_false, ite_true, ite_false, not_true_eq_false, not_false_eq_true, Int.reduceNeg, Bool.and_self])
local macro_rules | `(tactic| walk_at "c") => `(tactic| first | assumption | exact Nat.zero_le _ | (with_reducible decide) | (simp only [List.length_cons, List.length_nil]; omega) | omega | decide | (unfold CPow; decide) | (simp only [List.length_cons, List.length_nil]; decide))
local macro_rules | `(tactic| walk_at "rq") => `(tactic| (repeat (first | exact Rest.nil | refine Rest.cons inferInstance ?_)))
local macro_rules | `(tactic| walk_at "sz") => `(tactic| (repeat (refine And.intro (by omega) ?_)))
local macro_rules | `(tactic| walk_at "u_tick") => `(tactic| simp only [T_tick, b_tick, l_tick_6, l_tick_5, l_tick_13, l_tick_12, l_tick_16, l_tick_15, l_tick_14, l_tick_10, l_tick_9, l_tick_8, l_tick_7, l_tick_3])
local macro_rules | `(tactic| walk_at "u_dial") => `(tactic| simp only [T_dial, b_dial])
local macro_rules | `(tactic| walk_at "u_law_signs") => `(tactic| simp only [T_law_signs, b_law_signs, l_law_signs_6, l_law_signs_5, l_law_signs_7, l_law_signs_4, l_law_signs_3, l_law_signs_2])
local macro_rules | `(tactic| walk_at "u_law_is_state") => `(tactic| simp only [T_law_is_state, b_law_is_state, l_law_is_state_4, l_law_is_state_3])
local macro_rules | `(tactic| walk_at "u_burning") => `(tactic| simp only [T_burning, b_burning])
local macro_rules | `(tactic| walk_at "u_is_signs") => `(tactic| simp only [T_is_signs, b_is_signs])
local macro_rules | `(tactic| walk_at "u_is_state") => `(tactic| simp only [T_is_state, b_is_state, l_is_state_3])
local macro_rules | `(tactic| walk_at "u_need_state") => `(tactic| simp only [T_need_state, T_need_statex, wPx, b_need_state])
local macro_rules | `(tactic| walk_at "u_exchanged_in") => `(tactic| simp only [T_exchanged_in, b_exchanged_in])
local macro_rules | `(tactic| walk_at "u_exchanged") => `(tactic| simp only [T_exchanged, T_exchangedx, wPx, b_exchanged, l_exchanged_2])
local macro_rules | `(tactic| walk_at "u_is_high_in") => `(tactic| simp only [T_is_high_in, b_is_high_in])
local macro_rules | `(tactic| walk_at "u_is_high") => `(tactic| simp only [T_is_high, T_is_highx, wPx, b_is_high, l_is_high_2])
local macro_rules | `(tactic| walk_at "u_pairs_of") => `(tactic| simp only [T_pairs_of, T_pairs_ofx, wPx, b_pairs_of, l_pairs_of_2])
local macro_rules | `(tactic| walk_at "u_law_heard") => `(tactic| simp only [T_law_heard, b_law_heard, l_law_heard_8, l_law_heard_6, l_law_heard_2])
local macro_rules | `(tactic| walk_at "u_law") => `(tactic| simp only [b_law, l_law_13, l_law_18, l_law_17, l_law_15, l_law_14, l_law_10, l_law_8, l_law_7, l_law_6, l_law_5, l_law_4, l_law_3, l_law_20])
variable {xc : XD → Prop}
theorem is_signs_ok {d : D} {P : D → Prop} (hl : ∀ z, d = .str z → z.length ≤ sizeLine)  (h : P (.bl (sg d))) (hf : d.isF = false := by first | rfl | assumption) : T_is_signs [d] P := by
  walk_at "u_is_signs"
  cases d with
  | str z =>
    walk_at "w"
    refine ⟨?_, ?_⟩
    · rw [signs_len]; exact hl z rfl
    · refine compN_pure (fun _ => true) (fun d => .bl (sg d)) (fun d hd K Ks h1 h2 => ?_) ?_
      · obtain ⟨c, _, rfl⟩ := List.mem_map.mp hd
        walk_at "w"
        rw [← lit_01, strIn_1]
        have e : decide (c ∈ (Str.ofString "01").cps.toList) = sg (.str ⟨#[c]⟩) := by
          show decide (c ∈ [48, 49]) = _
          simp [sg, is01]
        rw [e]
        exact h1 rfl
      · rw [List.filter_eq_self.mpr (fun _ _ => rfl), bls_map]
        exact ⟨_, rfl, by rw [sg_signs]; exact h⟩
  | _ => first | (walk_at "w"; exact h) | exact Bool.noConfusion hf

def is1D (d : D) : Bool := match d with | .str z => z == S [true] | _ => false
theorem is1D_sgn (b : Bool) : is1D (sgn b) = b := sgn_eq1 b
theorem cnt_filter : ∀ l : List Bool, ((l.map sgn).filter is1D).length = l.count true
  | [] => rfl
  | b :: l => by
    rw [List.map_cons, List.filter_cons, is1D_sgn, List.count_cons]
    cases b
    · simpa using cnt_filter l
    · simpa using cnt_filter l
theorem burning_ok {l : List Bool} {P : D → Prop} (hl : l.length ≤ 1000000) (h : P (.int (l.count true : Nat))) : T_burning [.str (S l)] P := by
  have sz : sizeLine = 16777216 := rfl
  walk_at "u_burning"
  walk_at "w"
  refine ⟨by omega, ?_⟩
  refine compN_pure is1D (fun d => d) (fun d hd K Ks k1 k2 => ?_) ?_
  · obtain ⟨b, _, rfl⟩ := List.mem_map.mp hd
    rw [is1D_sgn] at k1 k2
    walk_at "w"
    cases b with
    | true => walk_at "w"; exact k1 rfl
    | false =>
      have e0 : (([false] == [true]) : Bool) = false := rfl
      rw [e0]
      walk_at "w"
      exact k2 rfl
  · walk_at "w"
    rw [cnt_filter]
    exact h
theorem is_high_in_ok {l : List Bool} {P : D → Prop} (hl : l.length ≤ 1000000) (h : P (.bl (decide (((l.length : Nat) : Int) < 2 * (l.count true : Nat))))) : T_is_high_in [.str (S l)] P := by
  have sz : sizeLine = 16777216 := rfl
  walk_at "u_is_high_in"
  walk_at "w"
  refine burning_ok hl ?_
  walk_at "w"
  exact ⟨cmul_l (by decide) (by decide), by omega, h⟩
theorem exchanged_in_ok {l : List Bool} {P : D → Prop} (hl : l.length ≤ 1000000) (h : P (.str (S (l.map not)))) : T_exchanged_in [.str (S l)] P := by
  have sz : sizeLine = 16777216 := rfl
  walk_at "u_exchanged_in"
  walk_at "w"
  refine ⟨by omega, ?_⟩
  refine compN_pure (fun _ => true) (fun d => match d with | .str z => .str (if (z == S [true]) = true then S [false] else S [true]) | d => d) (fun d hd K Ks k1 k2 => ?_) ?_
  · obtain ⟨b, _, rfl⟩ := List.mem_map.mp hd
    have := k1 rfl
    have e : (match sgn b with | .str z => D.str (if (z == S [true]) = true then S [false] else S [true]) | d => d) = sgn (!b) := by
      show D.str (if (S [b] == S [true]) = true then S [false] else S [true]) = _
      rw [sgn_eq1]
      cases b <;> rfl
    rw [e] at this
    walk_at "w"
    cases b with
    | true => walk_at "w"; exact this
    | false =>
      have e0 : (([false] == [true]) : Bool) = false := rfl
      rw [e0]
      walk_at "w"
      exact this
  · have e : (((l.map sgn).filter fun _ => true).map fun d => match d with | .str z => D.str (if (z == S [true]) = true then S [false] else S [true]) | d => d) = (l.map not).map sgn := by
      rw [List.filter_eq_self.mpr (fun _ _ => rfl), List.map_map, List.map_map]
      congr 1
      funext b
      show D.str (if (S [b] == S [true]) = true then S [false] else S [true]) = _
      rw [sgn_eq1]
      cases b <;> rfl
    rw [e]
    exact join_ok (by rw [List.length_map]; exact hl) h
theorem is_state_S {l : List Bool} {P : D → Prop} (hl : l.length ≤ 1000000) (h : P (.bl (stok l))) : T_is_state [.str (S l)] P := by
  have sz : sizeLine = 16777216 := rfl
  walk_at "u_is_state"
  walk_at "w"
  refine is_signs_ok (fun z e => by cases e; exact szS hl) ?_
  have e1 : sg (.str (S l)) = true := S_01 l
  rw [e1]
  unfold stok at h
  walk_at "w"
  refine ⟨by omega, ?_⟩
  by_cases h1 : l.length % 2 = 1
  · rw [decide_eq_true h1] at h
    have e2 : (((l.length : Nat) : Int) % 2 == 0) = false := by rw [beq_eq_false_iff_ne]; omega
    rw [e2]
    walk_at "w"
    by_cases h2 : 3 ≤ l.length
    · rw [decide_eq_true h2] at h
      refine ⟨by omega, ?_⟩
      rw [if_pos (by omega)]
      by_cases h3 : l.length ≤ 401
      · rw [decide_eq_true h3] at h
        have e3 : decide (((l.length : Nat) : Int) ≤ 2 * 200 + 1) = true := by rw [decide_eq_true_iff]; omega
        rw [e3]
        walk_at "w"
        refine ⟨cmul_l (by decide) (by decide), burning_ok hl ?_⟩
        walk_at "w"
        refine ⟨by omega, fdiv_of (by decide) (by decide), by omega, fdiv_of (by decide) (by decide), rfl, rfl, ?_⟩
        have e4 : inB (.int (l.count true : Nat)) [.int (((l.length : Nat) : Int) / 2), .int (((l.length : Nat) : Int) / 2 + 1)] = (decide (l.count true = l.length / 2) || decide (l.count true = l.length / 2 + 1)) := by
          unfold inB
          rw [List.any_cons, List.any_cons, List.any_nil, eqb_i, eqb_i, Bool.or_false, Bool.eq_iff_iff]
          simp only [Bool.or_eq_true, beq_iff_eq, decide_eq_true_eq]
          omega
        rw [e4]
        rw [Bool.true_and, Bool.true_and, Bool.true_and] at h
        exact h
      · rw [decide_eq_false h3] at h
        have e3 : decide (((l.length : Nat) : Int) ≤ 2 * 200 + 1) = false := by rw [decide_eq_false_iff_not]; omega
        rw [e3]
        walk_at "w"
        rw [Bool.and_false, Bool.false_and] at h
        exact ⟨cmul_l (by decide) (by decide), h⟩
    · rw [decide_eq_false h2] at h
      refine ⟨by omega, ?_⟩
      rw [if_neg (by omega)]
      rw [Bool.and_false, Bool.false_and, Bool.false_and] at h
      exact h
  · rw [decide_eq_false h1] at h
    have e2 : (((l.length : Nat) : Int) % 2 == 0) = true := by rw [beq_iff_eq]; omega
    rw [e2]
    walk_at "w"
    rw [Bool.false_and, Bool.false_and, Bool.false_and] at h
    exact h
theorem need_state_ok {l : List Bool} {p : D} {P : D → Prop} (hs : stok l = true) (h : P .non) : T_need_statex xc [.str (S l), p] P := by
  have hl : l.length ≤ 1000000 := by
    unfold stok at hs
    simp only [Bool.and_eq_true, decide_eq_true_eq] at hs
    omega
  walk_at "u_need_state"
  walk_at "w"
  refine is_state_S hl ?_
  rw [hs]
  walk_at "w"
  exact h
def sD (d : D) : Bool := match d with | .str z => is01 z.cps.toList && stok (un z) | _ => false
theorem sD_S (l : List Bool) : sD (.str (S l)) = stok l := by
  have e : sg (.str (S l)) = true := S_01 l
  show (sg (.str (S l)) && stok (un (S l))) = _
  rw [e, un_S]
  rfl
theorem is_state_ok {d : D} {P : D → Prop} (hl : ∀ z, d = .str z → z.length ≤ 1000000) (h : P (.bl (sD d))) (hf : d.isF = false := by first | rfl | assumption) : T_is_state [d] P := by
  have sz : sizeLine = 16777216 := rfl
  cases d with
  | str z =>
    cases h1 : is01 z.cps.toList with
    | true =>
      obtain ⟨l, rfl⟩ := S_of h1
      rw [sD_S] at h
      refine is_state_S ?_ h
      have := hl _ rfl
      rwa [S_len] at this
    | false =>
      have e : sD (.str z) = false := by
        show (is01 z.cps.toList && _) = false
        rw [h1]
        rfl
      rw [e] at h
      walk_at "u_is_state"
      walk_at "w"
      refine is_signs_ok (fun z e => by cases e; have := hl _ rfl; omega) ?_
      have e1 : sg (.str z) = false := h1
      rw [e1]
      walk_at "w"
      exact h
  | fn _ => exact Bool.noConfusion hf
  | exc _ _ _ => exact Bool.noConfusion hf
  | _ =>
    walk_at "u_is_state"
    walk_at "w"
    refine is_signs_ok (fun z e => by cases e) ?_
    simp only [sg]
    walk_at "w"
    exact h
theorem need_state_bad {v p : D} {P : D → Prop} (hl : ∀ z, v = .str z → z.length ≤ 1000000) (hw : sD v = false) (hp : p.msgOk) (h : xc ⟨2, [0], [p]⟩) (hf : v.isF = false := by first | rfl | assumption) : T_need_statex xc [v, p] P := by
  walk_at "u_need_state"
  walk_at "w"
  refine is_state_ok hl ?_
  rw [hw]
  walk_at "w"
  exact ⟨hp, h⟩
theorem stok_even {l : List Bool} (h : l.length % 2 = 0) : stok l = false := by
  unfold stok
  rw [decide_eq_false (by omega)]
  rfl
theorem stok_long {l : List Bool} (h : 401 < l.length) : stok l = false := by
  unfold stok
  rw [decide_eq_false (p := l.length ≤ 401) (by omega), Bool.and_false, Bool.false_and]
theorem stok_short {l : List Bool} (h : l.length < 3) : stok l = false := by
  unfold stok
  rw [decide_eq_false (p := 3 ≤ l.length) (by omega), Bool.and_false, Bool.false_and, Bool.false_and]
theorem stok_full {n : Nat} (h : 3 ≤ n) : stok (List.replicate n true) = false := by
  have e1 : (List.replicate n true).count true = n := by rw [List.count_replicate]; rfl
  unfold stok
  rw [e1, List.length_replicate, decide_eq_false (p := n = n / 2) (by omega), decide_eq_false (p := n = n / 2 + 1) (by omega)]
  simp
theorem sD_not {z : Str} (h : is01 z.cps.toList = false) : sD (.str z) = false := by
  show (is01 z.cps.toList && _) = false
  rw [h]
  rfl

theorem stok_rev (l : List Bool) : stok l.reverse = stok l := by
  unfold stok
  rw [List.length_reverse, List.count_reverse]
theorem exchanged_ok {l : List Bool} {P : D → Prop} (hs : stok l = true) (h : P (.str (S (l.map not)))) : T_exchangedx xc [.str (S l)] P := by
  have hl : l.length ≤ 401 := by
    unfold stok at hs
    simp only [Bool.and_eq_true, decide_eq_true_eq] at hs
    omega
  walk_at "u_exchanged"
  walk_at "w"
  refine need_state_ok hs ?_
  walk_at "w"
  exact exchanged_in_ok (by omega) h
instance {k : Nat} : Dk k (.str "state") := dk_str (show PyData.strOk "state" = true by decide +kernel)
theorem stok_len {l : List Bool} (hs : stok l = true) : 3 ≤ l.length ∧ l.length ≤ 401 := by
  unfold stok at hs
  simp only [Bool.and_eq_true, decide_eq_true_eq] at hs
  omega
theorem is_high_ok {l : List Bool} {P : D → Prop} (hs : stok l = true) (h : P (.bl (decide (((l.length : Nat) : Int) < 2 * (l.count true : Nat))))) : T_is_highx xc [.str (S l)] P := by
  obtain ⟨_, hl⟩ := stok_len hs
  walk_at "u_is_high"
  walk_at "w"
  refine need_state_ok hs ?_
  walk_at "w"
  exact is_high_in_ok (by omega) h
theorem pairs_of_ok {l : List Bool} {P : D → Prop} (hs : stok l = true) (h : P (.int (((l.length : Nat) : Int) / 2))) : T_pairs_ofx xc [.str (S l)] P := by
  have sz : sizeLine = 16777216 := rfl
  obtain ⟨_, hl⟩ := stok_len hs
  walk_at "u_pairs_of"
  walk_at "w"
  refine need_state_ok hs ?_
  walk_at "w"
  exact ⟨by omega, fdiv_of (by decide) (by decide), h⟩
theorem pairs_of_bad {v : D} {P : D → Prop} (hl : ∀ z, v = .str z → z.length ≤ 1000000) (hw : sD v = false) (h : xc ⟨2, [0], [.str "state"]⟩) (hf : v.isF = false := by first | rfl | assumption) : T_pairs_ofx xc [v] P := by
  walk_at "u_pairs_of"
  walk_at "w"
  exact need_state_bad hl hw (by show (5 : Nat) ≤ 1000; decide) h hf
theorem is_high_bad {v : D} {P : D → Prop} (hl : ∀ z, v = .str z → z.length ≤ 1000000) (hw : sD v = false) (h : xc ⟨2, [0], [.str "state"]⟩) (hf : v.isF = false := by first | rfl | assumption) : T_is_highx xc [v] P := by
  walk_at "u_is_high"
  walk_at "w"
  exact need_state_bad hl hw (by show (5 : Nat) ≤ 1000; decide) h hf
theorem exchanged_bad {v : D} {P : D → Prop} (hl : ∀ z, v = .str z → z.length ≤ 1000000) (hw : sD v = false) (h : xc ⟨2, [0], [.str "state"]⟩) (hf : v.isF = false := by first | rfl | assumption) : T_exchangedx xc [v] P := by
  walk_at "u_exchanged"
  walk_at "w"
  exact need_state_bad hl hw (by show (5 : Nat) ≤ 1000; decide) h hf
/-- a sign that is neither -/
def no01 (d : D) : Bool := match d with | .str z => !is01 z.cps.toList | _ => true
theorem no01_all (z : Str) : ((signs z).filter no01).isEmpty = is01 z.cps.toList := by
  rw [← show sg (.str z) = is01 z.cps.toList from rfl, ← sg_signs]
  rw [Bool.eq_iff_iff, List.isEmpty_iff, List.filter_eq_nil_iff]
  simp only [List.all_map, List.all_eq_true]
  constructor
  · intro h x hx
    have := h x hx
    unfold signs at hx
    obtain ⟨c, _, rfl⟩ := List.mem_map.mp hx
    unfold no01 at this
    simpa [sg] using this
  · intro h x hx
    have := h x hx
    unfold signs at hx
    obtain ⟨c, _, rfl⟩ := List.mem_map.mp hx
    unfold no01
    simpa [sg] using this
theorem law_is_state_ok {d : D} {P : D → Prop} (hl : ∀ z, d = .str z → z.length ≤ 1000000) (hv : ∀ z, d = .str z → SV z) (h : P (.bl (sD d))) (hf : d.isF = false := by first | rfl | assumption) : T_law_is_state [d] P := by
  have sz : sizeLine = 16777216 := rfl
  cases d with
  | str z =>
    have zl := hl z rfl
    unfold T_law_is_state b_law_is_state
    walk_at "w"
    refine ⟨by rw [signs_len]; omega, compN_pure no01 (fun d => d) (fun d hd K Ks k1 k2 => ?_) ?_⟩
    · unfold signs at hd
      obtain ⟨c, _, rfl⟩ := List.mem_map.mp hd
      walk_at "w"
      refine ⟨rfl, rfl, ?_⟩
      have e : inB (.str ⟨#[c]⟩) [.str (S [false]), .str (S [true])] = !no01 (.str ⟨#[c]⟩) := by
        unfold inB no01
        rw [List.any_cons, List.any_cons, List.any_nil, eqb_s, eqb_s, Bool.or_false, Bool.not_not]
        by_cases c0 : c = 48
        · rw [c0]; decide +kernel
        · by_cases c1 : c = 49
          · rw [c1]; decide +kernel
          · have n0 : (S [false] == (⟨#[c]⟩ : Str)) = false := beq_eq_false_iff_ne.mpr fun e => c0 (by
              have := congrArg (fun z : Str => z.cps.toList) e
              exact (List.cons.inj this).1.symm)
            have n1 : (S [true] == (⟨#[c]⟩ : Str)) = false := beq_eq_false_iff_ne.mpr fun e => c1 (by
              have := congrArg (fun z : Str => z.cps.toList) e
              exact (List.cons.inj this).1.symm)
            rw [n0, n1]
            show _ = List.all [c] _
            simp [c0, c1]
      rw [e]
      cases q : no01 (.str ⟨#[c]⟩) with
      | true => exact k1 q
      | false => exact k2 q
    rw [List.map_id']
    have hq : eqOk (.lst ((signs z).filter no01)) (.lst []) = true := strs_eqOk fun d hd => by
      have hd := (List.mem_filter.mp hd).1
      unfold signs at hd
      obtain ⟨c, hc, rfl⟩ := List.mem_map.mp hd
      refine ⟨_, rfl, sv_iff.mpr fun c' hc' => ?_⟩
      have : c' = c := by simpa using hc'
      rw [this]
      exact sv_iff.mp (hv z rfl) c hc
    walk_at "w"
    refine ⟨hq, ?_⟩
    rw [eqb_nil, no01_all]
    cases h1 : is01 z.cps.toList with
    | false =>
      walk_at "w"
      have e : sD (.str z) = false := by
        show (is01 z.cps.toList && _) = false
        rw [h1]
        rfl
      rw [e] at h
      exact h
    | true =>
      obtain ⟨l, rfl⟩ := S_of h1
      rw [S_len] at zl
      rw [sD_S] at h
      unfold l_law_is_state_3
      walk_at "w"
      refine ⟨by omega, compN_pure is1D (fun d => d) (fun d hd K Ks k1 k2 => ?_) ?_⟩
      · obtain ⟨b, _, rfl⟩ := List.mem_map.mp hd
        rw [is1D_sgn] at k1 k2
        walk_at "w"
        cases b with
        | true => walk_at "w"; exact k1 rfl
        | false =>
          have e0 : (([false] == [true]) : Bool) = false := rfl
          rw [e0]
          walk_at "w"
          exact k2 rfl
      · rw [List.map_id', cnt_filter]
        unfold l_law_is_state_4
        walk_at "w"
        refine ⟨by omega, ?_⟩
        unfold stok at h
        by_cases h2 : 3 ≤ l.length
        · rw [if_pos (by omega)]
          rw [decide_eq_true h2] at h
          by_cases h3 : l.length ≤ 401
          · rw [if_pos (by omega)]
            rw [decide_eq_true h3] at h
            refine ⟨by omega, ?_⟩
            by_cases h4 : l.length % 2 = 1
            · rw [decide_eq_true h4] at h
              rw [if_pos (by rw [beq_iff_eq]; omega)]
              refine ⟨cmul_l (by decide) (by decide), by omega, rfl, rfl, ?_⟩
              have e : inB (.int (2 * (l.count true : Nat) - (l.length : Nat))) [.int (-1), .int 1] = (decide (l.count true = l.length / 2) || decide (l.count true = l.length / 2 + 1)) := by
                unfold inB
                rw [List.any_cons, List.any_cons, List.any_nil, eqb_i, eqb_i, Bool.or_false, Bool.eq_iff_iff]
                simp only [Bool.or_eq_true, beq_iff_eq, decide_eq_true_eq]
                omega
              rw [e]
              simpa using h
            · rw [decide_eq_false h4] at h
              have e : (((l.length : Nat) : Int) % 2 == 1) = false := by rw [beq_eq_false_iff_ne]; omega
              rw [e, if_neg (by decide)]
              simpa using h
          · rw [if_neg (by omega)]
            rw [decide_eq_false h3] at h
            have e : decide (((l.length : Nat) : Int) ≤ 401) = false := decide_eq_false (by omega)
            rw [e]
            simpa using h
        · rw [if_neg (by omega)]
          rw [decide_eq_false h2] at h
          simpa using h
  | fn _ => exact Bool.noConfusion hf
  | exc _ _ _ => exact Bool.noConfusion hf
  | _ =>
    unfold T_law_is_state b_law_is_state
    walk_at "w"
    exact h

end L2.DL.k18

set_option Elab.async false
set_option linter.all false
set_option autoImplicit false
set_option maxRecDepth 100000
set_option maxHeartbeats 4000000
namespace L2.DL.k18
open PySem
local macro_rules | `(tactic| walk_at "w") => `(tactic| try simp -implicitDefEqProofs only [wP, wPx, e_Raise, e_Try, wCallX, wCallV, wAct, wIsE, wIsE2, wAtE, isE2_n, isE2_x, isE_n, isE_x, atE_x, am_nil, am_cons, mo_s, kept_c, mask_c, mask_n, maskS_v, maskS_no, maskS_g, maskS_ow, maskS_lam, maskS_scr, ngx_scr, calm_scr, wScr, maskS_q, still_q, still_lam, still_gau, List.reverse_cons, List.reverse_nil, List.all_cons, List.all_nil, Bool.and_true, Bool.true_and, List.mem_cons, List.not_mem_nil, or_false, false_or, Prod.mk.injEq, forall_eq_or_imp, forall_eq, List.zip_cons_cons, List.zip_nil_left, List.zip_nil_right, List.lookup_cons, wG, e_Open, e_Seq, e_IfS, wB, wBin, wGx, wC, e_Set, e_Ret, wB1, wCons, wNil, wVar, e_Next, e_GxSet, wAnd, wOr, wUn, wTup, wLst, e_Pass, wIf, wTru, wNot, wNotV, wAndV, wOrV, e_Drop, wCall, wCallG, wCallK, wIsi, wLc, e_For, e_Asg, e_Par, e_Par3, wChain, wSl, wPart, wNoP, wMt, wDict1, wIter, wRng1, wRng2, e_SetL, e_SetO, wLstO, e_App, e_Frz, e_RetN, e_Never, e_Brk, e_Cnt, gN, gT, gTA, gCs, gNl, wComp, wComp2, wipeE, tYesG, perm_0, perm_01, perm_10, perm_012, perm_021, perm_102, perm_120, perm_201, perm_210, perm_0123, perm_0132, perm_0213, perm_0231, perm_0312, perm_0321, perm_1023, perm_1032, perm_1203, perm_1230, perm_1302, perm_1320, perm_2013, perm_2031, perm_2103, perm_2130, perm_2301, perm_2310, perm_3012, perm_3021, perm_3102, perm_3120, perm_3201, perm_3210, beq_self_eq_true, sz_0, sz_1, sz_2, sz_3, sz_4, sz_5, sz_6, sz_7, sz_8, sz_9, sz_10, sz_11, sz_12, sz_13, sz_14, sz_15, sz_16, sz_17, sz_18, sz_19, sz_20, sz_21, sz_22, sz_23, sz_24, sz_25, sz_26, sz_27, sz_28, sz_29, sz_30, sz_31, sz_32, sz_33, sz_34, sz_35, sz_36, sz_37, sz_38, sz_39, sz_40, Nat.reduceLeDiff, Int.reducePow, Int.reduceLE, Int.reduceLT, reprD_bb, reprD_b, addD_i, addD_s, addD_l, addD_t, subD_i, mulD_i, mulD_s, mulD_l, fdivD_i, modD_i, powD_i, negD_i, shlD_i, shrD_i, ltD_i, leD_i, gtD_i, geD_i, ltD_s, gtD_s, isD_n, isntD_n, one_1, intD_i, intD_b, absD_i, lenD_s, lenD_l, lenD_t, strD_i, ixD_l, ixD_t, ixD_s, slD_s, slD_l, slD_t, inD_s, notinD_s, inD_l, inD_t, notinD_l, notinD_t, eqb_i, eqb_s, eqb_b, eqOk_i, eqOk_s, eqOk_b, eqD, neD, toTupD_s, toLstD_s, toTupD_l, toTupD_t, toLstD_l, toLstD_t, joinD_l, countD_s, startswithD_s, allD_l, revD_s, revD_l, wRng3, wEnum, wZip, wZipA, maxI2_i, dvmD_i, zipA_s, zipA_l, enumD, zipD, D.isN, D.items, lit_e, lit_em, lit_1, lit_0, lit_10, lit_01, lit_110, lit_101, S_app, S_len, S_cut, S_signs, S_rev, S_mul, S_beq, S_count, S_in, js_nil, js_cons, wJs, fmtD_s, fmtD_i, setA_nil, setA_v, setA_o, e_ParO, wConsO, wConsV, wNilO, e_Asg2, wIxo, wLenO, wLenSetT, wStar, e_Aug, e_Pop, e_PopTo, e_SetIt, e_Swap, e_NewD, e_PutO, e_FrzD, wConsD, wInOD, wGetOD, wIndex, e_Ext, wCatO, wMulO, eqb_self, eqOk_self, sgn, gxAt, oneGx, noGx, noOwn, ngx_q, calm_q, ngx_gau, ngx_own, ngx_gx, calm_gau, D.tru, D.truOk, D.nf, D.isF, kInt, kBool, kStr, kList, kTuple, kDict, D.key, List.map_cons, List.map_nil, List.replicate, List.reduceReplicate, List.flatten_cons, List.flatten_nil, Nat.reduceMul, Int.reduceToNat, List.cons_append, List.nil_append, List.append_nil, List.getElem?_cons_zero, List.getElem?_cons_succ, List.set_cons_zero, List.set_cons_succ, List.length_cons, List.length_nil, List.length_append, List.length_map, List.length_reverse, List.length_range, List.length_replicate, Option.some.injEq, Sl.val.injEq, Sl.gx.injEq, Sl.ow.injEq, OT.l.injEq, OT.d.injEq, D.int.injEq, D.bl.injEq, D.str.injEq, D.lst.injEq, D.tup.injEq, List.cons.injEq, exists_eq_left', exists_eq_left, and_true, true_and, and_self, or_true, true_or, reduceCtorEq, Int.reduceEq, reduceIte, Nat.reduceAdd, Nat.reduceEqDiff, false_and, and_false, false_or, or_false, exists_const, exists_and_left, exists_and_right, and_assoc, exists_eq', decide_eq_true_eq, decide_eq_false_iff_not, Bool.and_true, Bool.true_and, Bool.not_true, Bool.not_false, Bool.false_eq_true, if_true, if_false, ite_true, ite_false, not_true_eq_false, not_false_eq_true, Int.reduceNeg, Bool.and_self])
local macro_rules | `(tactic| walk_at "c") => `(tactic| first | assumption | exact Nat.zero_le _ | (with_reducible decide) | (simp only [List.length_cons, List.length_nil]; omega) | omega | decide | (unfold CPow; decide) | (simp only [List.length_cons, List.length_nil]; decide))
local macro_rules | `(tactic| walk_at "rq") => `(tactic| (repeat (first | exact Rest.nil | refine Rest.cons inferInstance ?_)))
local macro_rules | `(tactic| walk_at "sz") => `(tactic| (repeat (refine And.intro (by omega) ?_)))
local macro_rules | `(tactic| walk_at "u_tick") => `(tactic| simp only [T_tick, b_tick, l_tick_6, l_tick_5, l_tick_13, l_tick_12, l_tick_16, l_tick_15, l_tick_14, l_tick_10, l_tick_9, l_tick_8, l_tick_7, l_tick_3])
local macro_rules | `(tactic| walk_at "u_dial") => `(tactic| simp only [T_dial, b_dial])
local macro_rules | `(tactic| walk_at "u_law_signs") => `(tactic| simp only [T_law_signs, b_law_signs, l_law_signs_6, l_law_signs_5, l_law_signs_7, l_law_signs_4, l_law_signs_3, l_law_signs_2])
local macro_rules | `(tactic| walk_at "u_law_is_state") => `(tactic| simp only [T_law_is_state, b_law_is_state, l_law_is_state_4, l_law_is_state_3])
local macro_rules | `(tactic| walk_at "u_burning") => `(tactic| simp only [T_burning, b_burning])
local macro_rules | `(tactic| walk_at "u_is_signs") => `(tactic| simp only [T_is_signs, b_is_signs])
local macro_rules | `(tactic| walk_at "u_is_state") => `(tactic| simp only [T_is_state, b_is_state, l_is_state_3])
local macro_rules | `(tactic| walk_at "u_need_state") => `(tactic| simp only [T_need_state, T_need_statex, wPx, b_need_state])
local macro_rules | `(tactic| walk_at "u_exchanged_in") => `(tactic| simp only [T_exchanged_in, b_exchanged_in])
local macro_rules | `(tactic| walk_at "u_exchanged") => `(tactic| simp only [T_exchanged, T_exchangedx, wPx, b_exchanged, l_exchanged_2])
local macro_rules | `(tactic| walk_at "u_is_high_in") => `(tactic| simp only [T_is_high_in, b_is_high_in])
local macro_rules | `(tactic| walk_at "u_is_high") => `(tactic| simp only [T_is_high, T_is_highx, wPx, b_is_high, l_is_high_2])
local macro_rules | `(tactic| walk_at "u_pairs_of") => `(tactic| simp only [T_pairs_of, T_pairs_ofx, wPx, b_pairs_of, l_pairs_of_2])
local macro_rules | `(tactic| walk_at "u_law_heard") => `(tactic| simp only [T_law_heard, b_law_heard, l_law_heard_8, l_law_heard_6, l_law_heard_2])
local macro_rules | `(tactic| walk_at "u_law") => `(tactic| simp only [b_law, l_law_13, l_law_18, l_law_17, l_law_15, l_law_14, l_law_10, l_law_8, l_law_7, l_law_6, l_law_5, l_law_4, l_law_3, l_law_20])
variable {xc : XD → Prop}
theorem swap_count {l : List Bool} {i j : Nat} {x y b : Bool} (hi : l[i]? = some y) (hj : l[j]? = some x) : ((l.set i x).set j y).count b = l.count b ∧ ((l.set i x).set j y).length = l.length := by
  obtain ⟨hi1, hi2⟩ := List.getElem?_eq_some_iff.mp hi
  obtain ⟨hj1, hj2⟩ := List.getElem?_eq_some_iff.mp hj
  refine ⟨?_, by rw [List.length_set, List.length_set]⟩
  have p1 : 0 < l.count (l[i]) := List.count_pos_iff.mpr (List.getElem_mem _)
  rw [List.count_set (by rw [List.length_set]; exact hj1), List.count_set hi1]
  by_cases e : i = j
  · subst e
    rw [hi2] at hj2
    subst hj2
    rw [List.getElem_set_self, hi2]
    rw [hi2] at p1
    cases y <;> cases b <;> simp_all <;> omega
  · rw [List.getElem_set_ne e, hi2, hj2]
    have p2 : 0 < l.count (l[j]) := List.count_pos_iff.mpr (List.getElem_mem _)
    rw [hi2] at p1
    rw [hj2] at p2
    cases x <;> cases y <;> cases b <;> simp_all <;> omega
theorem law_signs_ok {c : Nat} {P : D → Nat → Prop} (hc : c + 500 < 2 ^ 21) (h : ∀ (l : List Bool) c', l.length ≤ 401 → c' ≤ c + 403 → P (.str (S l)) c') : T_law_signs [] c P := by
  have sz : sizeLine = 16777216 := rfl
  unfold T_law_signs b_law_signs
  walk_at "w"
  refine dial_ok (by walk_at "c") (by walk_at "c") (by omega) fun d hd => ?_
  obtain ⟨n, rfl, n1⟩ : ∃ n : Nat, d = .int (n : Int) ∧ n ≤ 401 := by
    simp only [List.mem_cons, List.not_mem_nil, or_false] at hd
    rcases hd with rfl | rfl | rfl | rfl | rfl | rfl | rfl | rfl | rfl | rfl | rfl
    · exact ⟨7, rfl, by decide⟩
    · exact ⟨3, rfl, by decide⟩
    · exact ⟨5, rfl, by decide⟩
    · exact ⟨1, rfl, by decide⟩
    · exact ⟨2, rfl, by decide⟩
    · exact ⟨4, rfl, by decide⟩
    · exact ⟨11, rfl, by decide⟩
    · exact ⟨9, rfl, by decide⟩
    · exact ⟨13, rfl, by decide⟩
    · exact ⟨0, rfl, by decide⟩
    · exact ⟨401, rfl, by decide⟩
  unfold l_law_signs_2
  walk_at "w"
  refine ⟨fdiv_of (by decide) (by decide), dial_ok (by walk_at "c") (by walk_at "c") (by omega) fun d hd => ?_⟩
  obtain ⟨o, rfl, o0, o1⟩ : ∃ o : Int, d = .int o ∧ -1 ≤ o ∧ o ≤ 2 := by
    simp only [List.mem_cons, List.not_mem_nil, or_false] at hd
    rcases hd with rfl | rfl | rfl | rfl | rfl | rfl <;> exact ⟨_, rfl, by decide, by decide⟩
  walk_at "w"
  have hb0 : 0 ≤ (if (n : Int) / 2 + o > 0 then (n : Int) / 2 + o else 0) := by split <;> omega
  have hb1 : (if (n : Int) / 2 + o > 0 then (n : Int) / 2 + o else 0) ≤ 1000 := by split <;> omega
  generalize (if (n : Int) / 2 + o > 0 then (n : Int) / 2 + o else 0) = b at hb0 hb1 ⊢
  unfold l_law_signs_3
  walk_at "w"
  have er : ∀ (b : Bool) (n : Nat), (List.replicate n [D.str (S [b])]).flatten = (List.replicate n b).map sgn := fun b n => by
    induction n with
    | zero => rfl
    | succ n ih => rw [List.replicate_succ, List.flatten_cons, ih, List.replicate_succ]; rfl
  have hm : ∃ u v : Nat, (if b < (n : Int) then b else (n : Int)) = (u : Int) ∧ (if (n : Int) - b > 0 then (n : Int) - b else 0) = (v : Int) ∧ u + v = n := by
    by_cases q : b < (n : Int)
    · exact ⟨b.toNat, ((n : Int) - b).toNat, by rw [if_pos q]; omega, by rw [if_pos (by omega)]; omega, by omega⟩
    · exact ⟨n, 0, by rw [if_neg q], by rw [if_neg (by omega)]; rfl, by omega⟩
  obtain ⟨u, v, hu, hv, huv⟩ := hm
  refine minI2_i ?_
  rw [hu, hv]
  walk_at "w"
  rw [Int.toNat_natCast, Int.toNat_natCast, er, er]
  refine ⟨by omega, by omega, by omega, by omega, by omega, by omega, by simp; omega, ?_⟩
  rw [← List.map_append]
  have hl0 : (List.replicate u true ++ List.replicate v false).length = n := by
    simp only [List.length_append, List.length_replicate]
    omega
  generalize List.replicate u true ++ List.replicate v false = l0 at hl0 ⊢
  unfold l_law_signs_4
  walk_at "w"
  rw [hl0]
  refine ⟨by omega, by omega, ?_⟩
  refine forW_inv (I := fun i env c' => c' ≤ c + 2 + i ∧ ∃ (l : List Bool) (x4 x5 : Sl), Quiet x4 ∧ Quiet x5 ∧ l.length = n ∧ env = [.gau, .val (.int (n : Int)), .val (.int b), .own (l.map sgn), x4, x5]) ?_ ?_ ?_
  · exact ⟨by omega, l0, .no, .no, inferInstance, inferInstance, hl0, rfl⟩
  · rintro i d env c' K hd ⟨hc', l, x4, x5, q4, q5, hl, rfl⟩ hK
    obtain ⟨hi, rfl⟩ := range_at hd
    unfold gN
    walk_at "w"
    unfold l_law_signs_5
    walk_at "w"
    rw [hl]
    refine tick_ok (by omega) (by omega) (by omega) fun j j0 j1 => ?_
    unfold l_law_signs_6
    walk_at "w"
    have hil : i < l.length := by omega
    have hjl : j.toNat < l.length := by omega
    have gi : l[i]? = some l[i] := List.getElem?_eq_getElem hil
    have gj : l[j.toNat]? = some l[j.toNat] := List.getElem?_eq_getElem hjl
    have ai : atI (l.map sgn) (0 + (i : Int)) = some (sgn l[i]) := by
      rw [Int.zero_add]
      exact atI_nat (by rw [List.getElem?_map, gi]; rfl)
    have aj : atI (l.map sgn) j = some (sgn l[j.toNat]) := by
      have : atI (l.map sgn) ((j.toNat : Nat) : Int) = some (sgn l[j.toNat]) := atI_nat (by rw [List.getElem?_map, gj]; rfl)
      rwa [Int.toNat_of_nonneg j0] at this
    have ni : ixN l.length (0 + (i : Int)) = some i := by
      unfold ixN
      rw [if_pos (by omega), if_pos (by omega), show (0 + (i : Int)).toNat = i by omega]
    have nj : ixN l.length j = some j.toNat := by
      unfold ixN
      rw [if_pos j0, if_pos (by omega)]
    refine ⟨_, aj, _, ai, i, ni, j.toNat, nj, ?_⟩
    obtain ⟨c1, c2⟩ := swap_count (b := true) gi gj
    refine hK _ _ ⟨by omega, (l.set i l[j.toNat]).set j.toNat l[i], .val (.int (0 + (i : Int))), .val (.int j), inferInstance, inferInstance, by rw [c2]; exact hl, ?_⟩
    rw [List.map_set, List.map_set]
  · rintro env c' ⟨hc', l, x4, x5, q4, q5, hl, rfl⟩
    rw [range_len] at hc'
    unfold l_law_signs_7
    walk_at "w"
    refine join_ex (Q := fun z => P (.str z) c') (l := l) (by omega) ?_
    exact h l c' (by omega) (by omega)

end L2.DL.k18

set_option Elab.async false
set_option linter.all false
set_option autoImplicit false
set_option maxRecDepth 100000
set_option maxHeartbeats 4000000
namespace L2.DL.k18
open PySem
local macro_rules | `(tactic| walk_at "w") => `(tactic| try simp -implicitDefEqProofs only [wP, wPx, e_Raise, e_Try, wCallX, wCallV, wAct, wIsE, wIsE2, wAtE, isE2_n, isE2_x, isE_n, isE_x, atE_x, am_nil, am_cons, mo_s, kept_c, mask_c, mask_n, maskS_v, maskS_no, maskS_g, maskS_ow, maskS_lam, maskS_scr, ngx_scr, calm_scr, wScr, maskS_q, still_q, still_lam, still_gau, List.reverse_cons, List.reverse_nil, List.all_cons, List.all_nil, Bool.and_true, Bool.true_and, List.mem_cons, List.not_mem_nil, or_false, false_or, Prod.mk.injEq, forall_eq_or_imp, forall_eq, List.zip_cons_cons, List.zip_nil_left, List.zip_nil_right, List.lookup_cons, wG, e_Open, e_Seq, e_IfS, wB, wBin, wGx, wC, e_Set, e_Ret, wB1, wCons, wNil, wVar, e_Next, e_GxSet, wAnd, wOr, wUn, wTup, wLst, e_Pass, wIf, wTru, wNot, wNotV, wAndV, wOrV, e_Drop, wCall, wCallG, wCallK, wIsi, wLc, e_For, e_Asg, e_Par, e_Par3, wChain, wSl, wPart, wNoP, wMt, wDict1, wIter, wRng1, wRng2, e_SetL, e_SetO, wLstO, e_App, e_Frz, e_RetN, e_Never, e_Brk, e_Cnt, gN, gT, gTA, gCs, gNl, wComp, wComp2, wipeE, tYesG, perm_0, perm_01, perm_10, perm_012, perm_021, perm_102, perm_120, perm_201, perm_210, perm_0123, perm_0132, perm_0213, perm_0231, perm_0312, perm_0321, perm_1023, perm_1032, perm_1203, perm_1230, perm_1302, perm_1320, perm_2013, perm_2031, perm_2103, perm_2130, perm_2301, perm_2310, perm_3012, perm_3021, perm_3102, perm_3120, perm_3201, perm_3210, beq_self_eq_true, sz_0, sz_1, sz_2, sz_3, sz_4, sz_5, sz_6, sz_7, sz_8, sz_9, sz_10, sz_11, sz_12, sz_13, sz_14, sz_15, sz_16, sz_17, sz_18, sz_19, sz_20, sz_21, sz_22, sz_23, sz_24, sz_25, sz_26, sz_27, sz_28, sz_29, sz_30, sz_31, sz_32, sz_33, sz_34, sz_35, sz_36, sz_37, sz_38, sz_39, sz_40, Nat.reduceLeDiff, Int.reducePow, Int.reduceLE, Int.reduceLT, reprD_bb, reprD_b, addD_i, addD_s, addD_l, addD_t, subD_i, mulD_i, mulD_s, mulD_l, fdivD_i, modD_i, powD_i, negD_i, shlD_i, shrD_i, ltD_i, leD_i, gtD_i, geD_i, ltD_s, gtD_s, isD_n, isntD_n, one_1, intD_i, intD_b, absD_i, lenD_s, lenD_l, lenD_t, strD_i, ixD_l, ixD_t, ixD_s, slD_s, slD_l, slD_t, inD_s, notinD_s, inD_l, inD_t, notinD_l, notinD_t, eqb_i, eqb_s, eqb_b, eqOk_i, eqOk_s, eqOk_b, eqD, neD, toTupD_s, toLstD_s, toTupD_l, toTupD_t, toLstD_l, toLstD_t, joinD_l, countD_s, startswithD_s, allD_l, revD_s, revD_l, wRng3, wEnum, wZip, wZipA, maxI2_i, dvmD_i, zipA_s, zipA_l, enumD, zipD, D.isN, D.items, lit_e, lit_em, lit_1, lit_0, lit_10, lit_01, lit_110, lit_101, S_app, S_len, S_cut, S_signs, S_rev, S_mul, S_beq, S_count, S_in, js_nil, js_cons, wJs, fmtD_s, fmtD_i, setA_nil, setA_v, setA_o, e_ParO, wConsO, wConsV, wNilO, e_Asg2, wIxo, wLenO, wLenSetT, wStar, e_Aug, e_Pop, e_PopTo, e_SetIt, e_Swap, e_NewD, e_PutO, e_FrzD, wConsD, wInOD, wGetOD, wIndex, e_Ext, wCatO, wMulO, eqb_self, eqOk_self, sgn, gxAt, oneGx, noGx, noOwn, ngx_q, calm_q, ngx_gau, ngx_own, ngx_gx, calm_gau, D.tru, D.truOk, D.nf, D.isF, kInt, kBool, kStr, kList, kTuple, kDict, D.key, List.map_cons, List.map_nil, List.replicate, List.reduceReplicate, List.flatten_cons, List.flatten_nil, Nat.reduceMul, Int.reduceToNat, List.cons_append, List.nil_append, List.append_nil, List.getElem?_cons_zero, List.getElem?_cons_succ, List.set_cons_zero, List.set_cons_succ, List.length_cons, List.length_nil, List.length_append, List.length_map, List.length_reverse, List.length_range, List.length_replicate, Option.some.injEq, Sl.val.injEq, Sl.gx.injEq, Sl.ow.injEq, OT.l.injEq, OT.d.injEq, D.int.injEq, D.bl.injEq, D.str.injEq, D.lst.injEq, D.tup.injEq, List.cons.injEq, exists_eq_left', exists_eq_left, and_true, true_and, and_self, or_true, true_or, reduceCtorEq, Int.reduceEq, reduceIte, Nat.reduceAdd, Nat.reduceEqDiff, false_and, and_false, false_or, or_false, exists_const, exists_and_left, exists_and_right, and_assoc, exists_eq', decide_eq_true_eq, decide_eq_false_iff_not, Bool.and_true, Bool.true_and, Bool.not_true, Bool.not_false, Bool.false_eq_true, if_true, if_false, ite_true, ite_false, not_true_eq_false, not_false_eq_true, Int.reduceNeg, Bool.and_self])
local macro_rules | `(tactic| walk_at "c") => `(tactic| first | assumption | exact Nat.zero_le _ | (with_reducible decide) | (simp only [List.length_cons, List.length_nil]; omega) | omega | decide | (unfold CPow; decide) | (simp only [List.length_cons, List.length_nil]; decide))
local macro_rules | `(tactic| walk_at "rq") => `(tactic| (repeat (first | exact Rest.nil | refine Rest.cons inferInstance ?_)))
local macro_rules | `(tactic| walk_at "sz") => `(tactic| (repeat (refine And.intro (by omega) ?_)))
local macro_rules | `(tactic| walk_at "u_tick") => `(tactic| simp only [T_tick, b_tick, l_tick_6, l_tick_5, l_tick_13, l_tick_12, l_tick_16, l_tick_15, l_tick_14, l_tick_10, l_tick_9, l_tick_8, l_tick_7, l_tick_3])
local macro_rules | `(tactic| walk_at "u_dial") => `(tactic| simp only [T_dial, b_dial])
local macro_rules | `(tactic| walk_at "u_law_signs") => `(tactic| simp only [T_law_signs, b_law_signs, l_law_signs_6, l_law_signs_5, l_law_signs_7, l_law_signs_4, l_law_signs_3, l_law_signs_2])
local macro_rules | `(tactic| walk_at "u_law_is_state") => `(tactic| simp only [T_law_is_state, b_law_is_state, l_law_is_state_4, l_law_is_state_3])
local macro_rules | `(tactic| walk_at "u_burning") => `(tactic| simp only [T_burning, b_burning])
local macro_rules | `(tactic| walk_at "u_is_signs") => `(tactic| simp only [T_is_signs, b_is_signs])
local macro_rules | `(tactic| walk_at "u_is_state") => `(tactic| simp only [T_is_state, b_is_state, l_is_state_3])
local macro_rules | `(tactic| walk_at "u_need_state") => `(tactic| simp only [T_need_state, T_need_statex, wPx, b_need_state])
local macro_rules | `(tactic| walk_at "u_exchanged_in") => `(tactic| simp only [T_exchanged_in, b_exchanged_in])
local macro_rules | `(tactic| walk_at "u_exchanged") => `(tactic| simp only [T_exchanged, T_exchangedx, wPx, b_exchanged, l_exchanged_2])
local macro_rules | `(tactic| walk_at "u_is_high_in") => `(tactic| simp only [T_is_high_in, b_is_high_in])
local macro_rules | `(tactic| walk_at "u_is_high") => `(tactic| simp only [T_is_high, T_is_highx, wPx, b_is_high, l_is_high_2])
local macro_rules | `(tactic| walk_at "u_pairs_of") => `(tactic| simp only [T_pairs_of, T_pairs_ofx, wPx, b_pairs_of, l_pairs_of_2])
local macro_rules | `(tactic| walk_at "u_law_heard") => `(tactic| simp only [T_law_heard, b_law_heard, l_law_heard_8, l_law_heard_6, l_law_heard_2])
local macro_rules | `(tactic| walk_at "u_law") => `(tactic| simp only [b_law, l_law_13, l_law_18, l_law_17, l_law_15, l_law_14, l_law_10, l_law_8, l_law_7, l_law_6, l_law_5, l_law_4, l_law_3, l_law_20])
variable {xc : XD → Prop}
theorem heard_1 {v : D} {P : D → Prop} (hl : ∀ z, v = .str z → z.length ≤ 1000000) (hw : sD v = false) (hf : v.isF = false) (h : P (.lst [.str "state"])) : T_law_heard [.fn "pairs_of", v] P := by
  unfold T_law_heard b_law_heard
  walk_at "w"
  unfold l_law_heard_2
  walk_at "w"
  refine ⟨"pairs_of", rfl, T_pairs_ofx, by unfold tab_1; simp, ?_⟩
  walk_at "w"
  refine pairs_of_bad hl hw ?_ hf
  unfold l_law_heard_6 l_law_heard_8
  walk_at "w"
  exact ⟨by decide, h⟩
theorem heard_2 {v : D} {P : D → Prop} (hl : ∀ z, v = .str z → z.length ≤ 1000000) (hw : sD v = false) (hf : v.isF = false) (h : P (.lst [.str "state"])) : T_law_heard [.fn "is_high", v] P := by
  unfold T_law_heard b_law_heard
  walk_at "w"
  unfold l_law_heard_2
  walk_at "w"
  refine ⟨"is_high", rfl, T_is_highx, by unfold tab_1; simp, ?_⟩
  walk_at "w"
  refine is_high_bad hl hw ?_ hf
  unfold l_law_heard_6 l_law_heard_8
  walk_at "w"
  exact ⟨by decide, h⟩
theorem heard_3 {v : D} {P : D → Prop} (hl : ∀ z, v = .str z → z.length ≤ 1000000) (hw : sD v = false) (hf : v.isF = false) (h : P (.lst [.str "state"])) : T_law_heard [.fn "exchanged", v] P := by
  unfold T_law_heard b_law_heard
  walk_at "w"
  unfold l_law_heard_2
  walk_at "w"
  refine ⟨"exchanged", rfl, T_exchangedx, by unfold tab_1; simp, ?_⟩
  walk_at "w"
  refine exchanged_bad hl hw ?_ hf
  unfold l_law_heard_6 l_law_heard_8
  walk_at "w"
  exact ⟨by decide, h⟩
theorem cnt_not (l : List Bool) : (l.map not).count true = l.length - l.count true := by
  induction l with
  | nil => rfl
  | cons b l ih =>
    have := List.count_le_length (a := true) (l := l)
    rw [List.map_cons, List.count_cons, ih, List.count_cons, List.length_cons]
    cases b <;> simp <;> omega
theorem val_ok {E : WEnds} {d : D} {c : Nat} {x2 x3 x4 x5 x6 x8 x9 x10 x11 : Sl} [Quiet x2] [Quiet x3] [Quiet x4] [Quiet x5] [Quiet x6] [Quiet x8] [Quiet x9] [Quiet x10] [Quiet x11] (hl : ∀ z, d = .str z → z.length ≤ 1000000) (hv : ∀ z, d = .str z → SV z) (hf : d.isF = false)
    (h : ∀ y8 y9 y10 y11 : Sl, Quiet y8 → Quiet y9 → Quiet y10 → Quiet y11 → E.nx [.no, .gau, x2, x3, x4, x5, x6, .val d, y8, y9, y10, y11] c)
    (hct : ∀ y8 y9 y10 y11 : Sl, Quiet y8 → Quiet y9 → Quiet y10 → Quiet y11 → E.ct [.no, .gau, x2, x3, x4, x5, x6, .val d, y8, y9, y10, y11] c) :
    l_law_7 E [.no, .gau, x2, x3, x4, x5, x6, .val d, x8, x9, x10, x11] c := by
  have sz : sizeLine = 16777216 := rfl
  unfold l_law_7
  walk_at "w"
  refine law_is_state_ok hl hv ?_ hf
  unfold l_law_8
  walk_at "w"
  refine is_state_ok hl ?_ hf
  walk_at "w"
  refine is_state_ok hl ?_ hf
  refine reprD_of (by decide) (by decide) ?_
  have e : (D.lst [D.bl (sD d), D.bl (sD d)]).p.shown = (PyData.list [PyData.bool (sD d), PyData.bool (sD d)]).shown := rfl
  rw [e]
  generalize PyData.shown _ = s1
  walk_at "w"
  unfold l_law_10
  cases hs : sD d with
  | false =>
    walk_at "w"
    refine heard_1 hl hs hf ?_
    refine heard_2 hl hs hf ?_
    refine heard_3 hl hs hf ?_
    walk_at "w"
    unfold l_law_13
    exact hct _ _ _ _ inferInstance inferInstance inferInstance inferInstance
  | true =>
    obtain ⟨l, rfl, hl'⟩ : ∃ l, d = .str (S l) ∧ stok l = true := by
      cases d with
      | str z =>
        unfold sD at hs
        simp only [Bool.and_eq_true] at hs
        obtain ⟨l, rfl⟩ := S_of hs.1
        rw [un_S] at hs
        exact ⟨l, rfl, hs.2⟩
      | _ => exact Bool.noConfusion hs
    walk_at "w"
    unfold l_law_14
    walk_at "w"
    obtain ⟨s3, s4⟩ := stok_len hl'
    refine ⟨by omega, compN_pure is1D (fun d => d) (fun d hd K Ks k1 k2 => ?_) ?_⟩
    · obtain ⟨b, _, rfl⟩ := List.mem_map.mp hd
      rw [is1D_sgn] at k1 k2
      walk_at "w"
      cases b with
      | true => walk_at "w"; exact k1 rfl
      | false =>
        have e0 : (([false] == [true]) : Bool) = false := rfl
        rw [e0]
        walk_at "w"
        exact k2 rfl
    rw [List.map_id', cnt_filter]
    unfold l_law_15
    walk_at "w"
    refine pairs_of_ok hl' ?_
    refine is_high_ok hl' ?_
    refine pairs_of_ok hl' ?_
    refine is_high_ok hl' ?_
    walk_at "w"
    haveI : Sm (((l.length : Nat) : Int) / 2) := Sm.of (by omega) (by omega)
    refine reprD_of (by decide) (by decide) ⟨by omega, fdiv_of (by decide) (by decide), cmul_l (by decide) (by decide), by omega, reprD_of (by decide) (by decide) ?_⟩
    generalize PyData.shown _ = s2
    walk_at "w"
    unfold l_law_17
    walk_at "w"
    refine exchanged_ok hl' ?_
    unfold l_law_18
    walk_at "w"
    refine ⟨by omega, compN_pure (fun _ => true) (fun d => match d with | .str z => .str (if (z == S [true]) = true then S [false] else S [true]) | d => d) (fun d hd K Ks k1 k2 => ?_) ?_⟩
    · obtain ⟨b, _, rfl⟩ := List.mem_map.mp hd
      have := k1 rfl
      have e : (match sgn b with | .str z => D.str (if (z == S [true]) = true then S [false] else S [true]) | d => d) = sgn (!b) := by
        show D.str (if (S [b] == S [true]) = true then S [false] else S [true]) = _
        rw [sgn_eq1]
        cases b <;> rfl
      rw [e] at this
      walk_at "w"
      cases b with
      | true => walk_at "w"; exact this
      | false =>
        have e0 : (([false] == [true]) : Bool) = false := rfl
        rw [e0]
        walk_at "w"
        exact this
    have em : (((l.map sgn).filter fun _ => true).map fun d => match d with | .str z => D.str (if (z == S [true]) = true then S [false] else S [true]) | d => d) = (l.map not).map sgn := by
      rw [List.filter_eq_self.mpr (fun _ _ => rfl), List.map_map, List.map_map]
      congr 1
      funext b
      show D.str (if (S [b] == S [true]) = true then S [false] else S [true]) = _
      rw [sgn_eq1]
      cases b <;> rfl
    rw [em]
    have hcn := cnt_not l
    have hle := List.count_le_length (a := true) (l := l)
    have hs2 := hl'
    unfold stok at hs2
    simp only [Bool.and_eq_true, Bool.or_eq_true, decide_eq_true_eq] at hs2
    have hn : stok (l.map not) = true := by
      unfold stok
      simp only [Bool.and_eq_true, Bool.or_eq_true, decide_eq_true_eq]
      rw [hcn, List.length_map]
      omega
    refine join_ex (Q := fun z => if (!S (List.map not l) == z) = true then _ else _) (l := l.map not) (by rw [List.length_map]; omega) ?_
    rw [if_neg (by simp)]
    refine exchanged_ok hn ?_
    have e2 : (l.map not).map not = l := by
      rw [List.map_map]
      have : (not ∘ not) = (id : Bool → Bool) := by funext b; cases b <;> rfl
      rw [this, List.map_id]
    rw [e2]
    walk_at "w"
    refine is_high_ok hn ?_
    refine is_high_ok hl' ?_
    rw [hcn, List.length_map, eqb_b]
    have e3 : (decide (((l.length : Nat) : Int) < 2 * ((l.length - l.count true : Nat) : Int)) == decide (((l.length : Nat) : Int) < 2 * (l.count true : Nat))) = false := by
      rw [beq_eq_false_iff_ne]
      intro q
      rw [decide_eq_decide] at q
      omega
    rw [e3]
    walk_at "w"
    exact h _ _ _ _ inferInstance inferInstance inferInstance inferInstance

end L2.DL.k18

set_option Elab.async false
set_option linter.all false
set_option autoImplicit false
set_option maxRecDepth 100000
set_option maxHeartbeats 4000000
namespace L2.DL.k18
open PySem
local macro_rules | `(tactic| walk_at "w") => `(tactic| try simp -implicitDefEqProofs only [wP, wPx, e_Raise, e_Try, wCallX, wCallV, wAct, wIsE, wIsE2, wAtE, isE2_n, isE2_x, isE_n, isE_x, atE_x, am_nil, am_cons, mo_s, kept_c, mask_c, mask_n, maskS_v, maskS_no, maskS_g, maskS_ow, maskS_lam, maskS_scr, ngx_scr, calm_scr, wScr, maskS_q, still_q, still_lam, still_gau, List.reverse_cons, List.reverse_nil, List.all_cons, List.all_nil, Bool.and_true, Bool.true_and, List.mem_cons, List.not_mem_nil, or_false, false_or, Prod.mk.injEq, forall_eq_or_imp, forall_eq, List.zip_cons_cons, List.zip_nil_left, List.zip_nil_right, List.lookup_cons, wG, e_Open, e_Seq, e_IfS, wB, wBin, wGx, wC, e_Set, e_Ret, wB1, wCons, wNil, wVar, e_Next, e_GxSet, wAnd, wOr, wUn, wTup, wLst, e_Pass, wIf, wTru, wNot, wNotV, wAndV, wOrV, e_Drop, wCall, wCallG, wCallK, wIsi, wLc, e_For, e_Asg, e_Par, e_Par3, wChain, wSl, wPart, wNoP, wMt, wDict1, wIter, wRng1, wRng2, e_SetL, e_SetO, wLstO, e_App, e_Frz, e_RetN, e_Never, e_Brk, e_Cnt, gN, gT, gTA, gCs, gNl, wComp, wComp2, wipeE, tYesG, perm_0, perm_01, perm_10, perm_012, perm_021, perm_102, perm_120, perm_201, perm_210, perm_0123, perm_0132, perm_0213, perm_0231, perm_0312, perm_0321, perm_1023, perm_1032, perm_1203, perm_1230, perm_1302, perm_1320, perm_2013, perm_2031, perm_2103, perm_2130, perm_2301, perm_2310, perm_3012, perm_3021, perm_3102, perm_3120, perm_3201, perm_3210, beq_self_eq_true, sz_0, sz_1, sz_2, sz_3, sz_4, sz_5, sz_6, sz_7, sz_8, sz_9, sz_10, sz_11, sz_12, sz_13, sz_14, sz_15, sz_16, sz_17, sz_18, sz_19, sz_20, sz_21, sz_22, sz_23, sz_24, sz_25, sz_26, sz_27, sz_28, sz_29, sz_30, sz_31, sz_32, sz_33, sz_34, sz_35, sz_36, sz_37, sz_38, sz_39, sz_40, Nat.reduceLeDiff, Int.reducePow, Int.reduceLE, Int.reduceLT, reprD_bb, reprD_b, addD_i, addD_s, addD_l, addD_t, subD_i, mulD_i, mulD_s, mulD_l, fdivD_i, modD_i, powD_i, negD_i, shlD_i, shrD_i, ltD_i, leD_i, gtD_i, geD_i, ltD_s, gtD_s, isD_n, isntD_n, one_1, intD_i, intD_b, absD_i, lenD_s, lenD_l, lenD_t, strD_i, ixD_l, ixD_t, ixD_s, slD_s, slD_l, slD_t, inD_s, notinD_s, inD_l, inD_t, notinD_l, notinD_t, eqb_i, eqb_s, eqb_b, eqOk_i, eqOk_s, eqOk_b, eqD, neD, toTupD_s, toLstD_s, toTupD_l, toTupD_t, toLstD_l, toLstD_t, joinD_l, countD_s, startswithD_s, allD_l, revD_s, revD_l, wRng3, wEnum, wZip, wZipA, maxI2_i, dvmD_i, zipA_s, zipA_l, enumD, zipD, D.isN, D.items, lit_e, lit_em, lit_1, lit_0, lit_10, lit_01, lit_110, lit_101, S_app, S_len, S_cut, S_signs, S_rev, S_mul, S_beq, S_count, S_in, js_nil, js_cons, wJs, fmtD_s, fmtD_i, setA_nil, setA_v, setA_o, e_ParO, wConsO, wConsV, wNilO, e_Asg2, wIxo, wLenO, wLenSetT, wStar, e_Aug, e_Pop, e_PopTo, e_SetIt, e_Swap, e_NewD, e_PutO, e_FrzD, wConsD, wInOD, wGetOD, wIndex, e_Ext, wCatO, wMulO, eqb_self, eqOk_self, sgn, gxAt, oneGx, noGx, noOwn, ngx_q, calm_q, ngx_gau, ngx_own, ngx_gx, calm_gau, D.tru, D.truOk, D.nf, D.isF, kInt, kBool, kStr, kList, kTuple, kDict, D.key, List.map_cons, List.map_nil, List.replicate, List.reduceReplicate, List.flatten_cons, List.flatten_nil, Nat.reduceMul, Int.reduceToNat, List.cons_append, List.nil_append, List.append_nil, List.getElem?_cons_zero, List.getElem?_cons_succ, List.set_cons_zero, List.set_cons_succ, List.length_cons, List.length_nil, List.length_append, List.length_map, List.length_reverse, List.length_range, List.length_replicate, Option.some.injEq, Sl.val.injEq, Sl.gx.injEq, Sl.ow.injEq, OT.l.injEq, OT.d.injEq, D.int.injEq, D.bl.injEq, D.str.injEq, D.lst.injEq, D.tup.injEq, List.cons.injEq, exists_eq_left', exists_eq_left, and_true, true_and, and_self, or_true, true_or, reduceCtorEq, Int.reduceEq, reduceIte, Nat.reduceAdd, Nat.reduceEqDiff, false_and, and_false, false_or, or_false, exists_const, exists_and_left, exists_and_right, and_assoc, exists_eq', decide_eq_true_eq, decide_eq_false_iff_not, Bool.and_true, Bool.true_and, Bool.not_true, Bool.not_false, Bool.false_eq_true, if_true, if_false, ite_true, ite_false, not_true_eq_false, not_false_eq_true, Int.reduceNeg, Bool.and_self])
local macro_rules | `(tactic| walk_at "c") => `(tactic| first | assumption | exact Nat.zero_le _ | (with_reducible decide) | (simp only [List.length_cons, List.length_nil]; omega) | omega | decide | (unfold CPow; decide) | (simp only [List.length_cons, List.length_nil]; decide))
local macro_rules | `(tactic| walk_at "rq") => `(tactic| (repeat (first | exact Rest.nil | refine Rest.cons inferInstance ?_)))
local macro_rules | `(tactic| walk_at "sz") => `(tactic| (repeat (refine And.intro (by omega) ?_)))
local macro_rules | `(tactic| walk_at "u_tick") => `(tactic| simp only [T_tick, b_tick, l_tick_6, l_tick_5, l_tick_13, l_tick_12, l_tick_16, l_tick_15, l_tick_14, l_tick_10, l_tick_9, l_tick_8, l_tick_7, l_tick_3])
local macro_rules | `(tactic| walk_at "u_dial") => `(tactic| simp only [T_dial, b_dial])
local macro_rules | `(tactic| walk_at "u_law_signs") => `(tactic| simp only [T_law_signs, b_law_signs, l_law_signs_6, l_law_signs_5, l_law_signs_7, l_law_signs_4, l_law_signs_3, l_law_signs_2])
local macro_rules | `(tactic| walk_at "u_law_is_state") => `(tactic| simp only [T_law_is_state, b_law_is_state, l_law_is_state_4, l_law_is_state_3])
local macro_rules | `(tactic| walk_at "u_burning") => `(tactic| simp only [T_burning, b_burning])
local macro_rules | `(tactic| walk_at "u_is_signs") => `(tactic| simp only [T_is_signs, b_is_signs])
local macro_rules | `(tactic| walk_at "u_is_state") => `(tactic| simp only [T_is_state, b_is_state, l_is_state_3])
local macro_rules | `(tactic| walk_at "u_need_state") => `(tactic| simp only [T_need_state, T_need_statex, wPx, b_need_state])
local macro_rules | `(tactic| walk_at "u_exchanged_in") => `(tactic| simp only [T_exchanged_in, b_exchanged_in])
local macro_rules | `(tactic| walk_at "u_exchanged") => `(tactic| simp only [T_exchanged, T_exchangedx, wPx, b_exchanged, l_exchanged_2])
local macro_rules | `(tactic| walk_at "u_is_high_in") => `(tactic| simp only [T_is_high_in, b_is_high_in])
local macro_rules | `(tactic| walk_at "u_is_high") => `(tactic| simp only [T_is_high, T_is_highx, wPx, b_is_high, l_is_high_2])
local macro_rules | `(tactic| walk_at "u_pairs_of") => `(tactic| simp only [T_pairs_of, T_pairs_ofx, wPx, b_pairs_of, l_pairs_of_2])
local macro_rules | `(tactic| walk_at "u_law_heard") => `(tactic| simp only [T_law_heard, b_law_heard, l_law_heard_8, l_law_heard_6, l_law_heard_2])
local macro_rules | `(tactic| walk_at "u_law") => `(tactic| simp only [b_law, l_law_13, l_law_18, l_law_17, l_law_15, l_law_14, l_law_10, l_law_8, l_law_7, l_law_6, l_law_5, l_law_4, l_law_3, l_law_20])
variable {xc : XD → Prop}
theorem four_ok {E : WEnds} {c : Nat} {ds : List D} {x2 x3 x4 x5 x6 x7 x8 x9 x10 x11 : Sl} [Quiet x2] [Quiet x3] [Quiet x4] [Quiet x5] [Quiet x6] [Quiet x7] [Quiet x8] [Quiet x9] [Quiet x10] [Quiet x11]
    (hd : ∀ d ∈ ds, (∀ z, d = .str z → z.length ≤ 1000000 ∧ SV z) ∧ d.isF = false)
    (h : ∀ y7 y8 y9 y10 y11 : Sl, Quiet y7 → Quiet y8 → Quiet y9 → Quiet y10 → Quiet y11 → E.nx [.no, .gau, x2, x3, x4, x5, x6, y7, y8, y9, y10, y11] c) :
    forW (gN 7) l_law_7 ds E [.no, .gau, x2, x3, x4, x5, x6, x7, x8, x9, x10, x11] c := by
  refine forW_inv (I := fun i env c' => c' = c ∧ ∃ y7 y8 y9 y10 y11 : Sl, Quiet y7 ∧ Quiet y8 ∧ Quiet y9 ∧ Quiet y10 ∧ Quiet y11 ∧ env = [.no, .gau, x2, x3, x4, x5, x6, y7, y8, y9, y10, y11]) ?_ ?_ ?_
  · exact ⟨rfl, _, _, _, _, _, inferInstance, inferInstance, inferInstance, inferInstance, inferInstance, rfl⟩
  · rintro i d env c' K hi ⟨rfl, y7, y8, y9, y10, y11, q7, q8, q9, q10, q11, rfl⟩ hK
    obtain ⟨h1, h2⟩ := hd d (List.mem_of_getElem? hi)
    haveI qd : Quiet (Sl.val d) := inferInstance
    exact val_ok (fun z e => (h1 z e).1) (fun z e => (h1 z e).2) h2 (fun y8 y9 y10 y11 r8 r9 r10 r11 => hK _ _ ⟨rfl, _, _, _, _, _, qd, r8, r9, r10, r11, rfl⟩) (fun y8 y9 y10 y11 r8 r9 r10 r11 => hK _ _ ⟨rfl, _, _, _, _, _, qd, r8, r9, r10, r11, rfl⟩)
  · rintro env c' ⟨rfl, y7, y8, y9, y10, y11, q7, q8, q9, q10, q11, rfl⟩
    exact h _ _ _ _ _ q7 q8 q9 q10 q11
theorem round_ok {E : WEnds} {c : Nat} {tn : Int} {x3 x4 x5 x6 x7 x8 x9 x10 x11 : Sl} [Quiet x3] [Quiet x4] [Quiet x5] [Quiet x6] [Quiet x7] [Quiet x8] [Quiet x9] [Quiet x10] [Quiet x11] (hc : c + 1000 < 2 ^ 21)
    (h : ∀ (c' : Nat) (y3 y4 y5 y6 y7 y8 y9 y10 y11 : Sl), Quiet y3 → Quiet y4 → Quiet y5 → Quiet y6 → Quiet y7 → Quiet y8 → Quiet y9 → Quiet y10 → Quiet y11 → c' ≤ c + 500 → E.nx [.no, .gau, .val (.int tn), y3, y4, y5, y6, y7, y8, y9, y10, y11] c') :
    l_law_3 E [.no, .gau, .val (.int tn), x3, x4, x5, x6, x7, x8, x9, x10, x11] c := by
  have sz : sizeLine = 16777216 := rfl
  unfold l_law_3
  walk_at "w"
  refine law_signs_ok (by omega) fun l c1 hl hc1 => ?_
  unfold l_law_4
  walk_at "w"
  refine ⟨by omega, tick_ok (by omega) (by omega) (by omega) fun t t0 t1 => ?_⟩
  refine dial_ok (by walk_at "c") (by walk_at "c") (by omega) fun d hd => ?_
  obtain ⟨z, rfl, zl, zv⟩ : ∃ z, d = .str z ∧ z.length ≤ 2 ∧ SV z := by
    simp only [List.mem_cons, List.not_mem_nil, or_false] at hd
    rcases hd with rfl | rfl | rfl | rfl | rfl | rfl | rfl | rfl | rfl <;> exact ⟨_, rfl, by decide +kernel, show PyData.strOk _ = true by decide +kernel⟩
  unfold l_law_5
  walk_at "w"
  refine ⟨by omega, by omega, dial_ok (by walk_at "c") (by walk_at "c") (by omega) fun o ho => ?_⟩
  have hO : (∀ z, o = .str z → z.length ≤ 1000000 ∧ SV z) ∧ o.isF = false := by
    simp only [List.mem_cons, List.not_mem_nil, or_false] at ho
    rcases ho with rfl | rfl | rfl | rfl | rfl | rfl | rfl | rfl <;> exact ⟨(fun z e => nomatch e), rfl⟩
  unfold l_law_6
  walk_at "w"
  have ct : cutD l none (some t) = l.take t.toNat := cut_taken _ t0
  have cd : cutD l (some (t + 1)) none = l.drop (t + 1).toNat := cut_dropn _ (by omega)
  have cd0 : cutD l (some t) none = l.drop t.toNat := cut_dropn _ t0
  rw [ct, cd, cd0]
  have lt : (l.take t.toNat).length ≤ l.length := by simp; omega
  have ld : ∀ k, (l.drop k).length ≤ l.length := fun k => by simp
  have l0 := ld t.toNat
  have l1 := ld (t + 1).toNat
  have la : (S (l.take t.toNat) ++ z).length = (l.take t.toNat).length + z.length := by rw [Str.length_append, S_len]
  have va : SV (S (l.take t.toNat) ++ z) := sv_app (S_sv _) zv
  refine ⟨by omega, by omega, by omega, by omega, by omega, by omega, by omega, by omega, ?_⟩
  refine four_ok (fun d hd => ?_) fun y7 y8 y9 y10 y11 q7 q8 q9 q10 q11 => h _ _ _ _ _ _ _ _ _ _ inferInstance inferInstance inferInstance inferInstance q7 q8 q9 q10 q11 (by omega)
  simp only [List.mem_cons, List.not_mem_nil, or_false] at hd
  rcases hd with rfl | rfl | rfl | rfl
  · exact ⟨fun y e => by cases e; exact ⟨by rw [S_len]; omega, S_sv _⟩, rfl⟩
  · exact ⟨fun y e => by cases e; exact ⟨by rw [Str.length_append, S_len]; omega, sv_app va (S_sv _)⟩, rfl⟩
  · exact ⟨fun y e => by cases e; exact ⟨by rw [Str.length_append, S_len]; omega, sv_app va (S_sv _)⟩, rfl⟩
  · exact hO
theorem plain : Plain := by
  unfold Plain b_law
  walk_at "w"
  refine forW_inv (I := fun i env c' => i ≤ 8 ∧ c' ≤ 500 * i ∧ ∃ x2 x3 x4 x5 x6 x7 x8 x9 x10 x11 : Sl, Quiet x2 ∧ Quiet x3 ∧ Quiet x4 ∧ Quiet x5 ∧ Quiet x6 ∧ Quiet x7 ∧ Quiet x8 ∧ Quiet x9 ∧ Quiet x10 ∧ Quiet x11 ∧ env = [.no, .gau, x2, x3, x4, x5, x6, x7, x8, x9, x10, x11]) ?_ ?_ ?_
  · exact ⟨by decide, Nat.le_refl _, _, _, _, _, _, _, _, _, _, _, inferInstance, inferInstance, inferInstance, inferInstance, inferInstance, inferInstance, inferInstance, inferInstance, inferInstance, inferInstance, rfl⟩
  · rintro i d env c1 K hd ⟨hi, hc1, x2, x3, x4, x5, x6, x7, x8, x9, x10, x11, q2, q3, q4, q5, q6, q7, q8, q9, q10, q11, rfl⟩ hK
    obtain ⟨hi2, rfl⟩ := range_at hd
    unfold gN
    have e : ([Sl.no, Sl.gau, x2, x3, x4, x5, x6, x7, x8, x9, x10, x11] : List Sl).set 2 (.val (.int (0 + (i : Int)))) = [Sl.no, Sl.gau, .val (.int (0 + (i : Int))), x3, x4, x5, x6, x7, x8, x9, x10, x11] := rfl
    rw [e]
    exact round_ok (by omega) fun c' y3 y4 y5 y6 y7 y8 y9 y10 y11 r3 r4 r5 r6 r7 r8 r9 r10 r11 hc' => hK _ _ ⟨by omega, by omega, _, _, _, _, _, _, _, _, _, _, inferInstance, r3, r4, r5, r6, r7, r8, r9, r10, r11, rfl⟩
  · rintro env c1 ⟨hi, hc1, x2, x3, x4, x5, x6, x7, x8, x9, x10, x11, q2, q3, q4, q5, q6, q7, q8, q9, q10, q11, rfl⟩
    unfold l_law_20
    walk_at "w"
    have it : ∀ (l : List Bool) (b : Bool) (P : D → Prop), l.length ≤ 1000000 → stok l = b → P (.bl b) → T_is_state [.str (S l)] P := fun l b P h1 h2 h3 => is_state_S h1 (by rw [h2]; exact h3)
    refine ⟨by decide, by decide, it _ true _ (by decide +kernel) (by decide +kernel) ⟨by decide, by decide, it _ false _ (by decide +kernel) (by decide +kernel) ⟨by decide, by decide, it _ true _ (by decide +kernel) (by decide +kernel) ?_⟩⟩⟩
    exact ⟨rfl, rfl⟩

end L2.DL.k18


open PySem PySem.W PyProof.Rows in
set_option maxRecDepth 100000 in
set_option maxHeartbeats 0 in
theorem PySem.Challenge.cw_everyhalf_k18_what_a_state_is_holds : PySem.Challenge.rw_everyhalf_k18_what_a_state_is.Holds := by
  w_on; o_law; k_head; (case hw => w_witness2)
  k_fill
  refine L2.DL.walkGT (l := PySem.Challenge.rw_everyhalf_k18_what_a_state_is) (k := 6) (x := "_law_script") [] rfl rfl ⟨rfl, by decide, by decide⟩ (fun w h Y => by first | exact PySem.W.kIn_of Y | exact PySem.W.km_in_of Y) (by decide +kernel) (fun w => by kernel_rfl) ?F
  case F =>
    intro w mg fa h KX G hmg
    refine' L2.DL.k18.all_mk L2.DL.k18.plain KX G hmg ?a0 ?l0 ?c0 ?k0 ?a1 ?l1 ?c1 ?k1 ?a2 ?l2 ?c2 ?k2 ?a3 ?l3 ?c3 ?k3 ?a4 ?l4 ?c4 ?k4 ?a5 ?l5 ?c5 ?k5 ?a6 ?l6 ?c6 ?k6 ?a7 ?l7 ?c7 ?k7 ?q8 ?a8 ?l8 ?c8 ?k8 ?a9 ?l9 ?c9 ?k9 ?a10 ?l10 ?c10 ?k10 ?a11 ?l11 ?c11 ?k11 ?a12 ?l12 ?c12 ?k12 ?a13 ?l13 ?c13 ?k13 ?a14 ?l14 ?c14 ?k14 ?a15 ?l15 ?c15 ?k15 ?z_abs ?z_all ?z_int ?z_isinstance ?z_len ?z_list ?z_max ?z_min ?z_range ?z_repr ?z_str ?z_tuple ?z_BURNS ?z_DARK ?z_MOST_PAIRS ?z_SIGNS ?xaH ?xeH ?xiH ?xtH ?xnH ?xsH ?xop ?xmS ?xhn ?xht ?xtop ?xaBadState ?xxBadState ?xsaBadState ?xgaBadState ?xggBadState ?xhaBadState ?xiBadState ?xtBadState ?xlBadState ?xc1BadState ?xlcBadState ?xv2BadState ?xflBadState ?xccBadState ?xkCBadState ?xeCBadState ?xtCBadState ?xhCBadState ?xiCBadState ?xmoBadState ?xmCBadState ?xsBBadState ?xsuBadState ?xsHBadState ?xfBadState_part ?ynBadState ?yyBadState
    (case a0 => k_is)
    (case l0 => k_is)
    (case c0 => k_is)
    (case k0 => k_is)
    (case a1 => k_is)
    (case l1 => k_is)
    (case c1 => k_is)
    (case k1 => k_is)
    (case a2 => k_is)
    (case l2 => k_is)
    (case c2 => k_is)
    (case k2 => k_is)
    (case a3 => k_is)
    (case l3 => k_is)
    (case c3 => k_is)
    (case k3 => k_is)
    (case a4 => k_is)
    (case l4 => k_is)
    (case c4 => k_is)
    (case k4 => k_is)
    (case a5 => k_is)
    (case l5 => k_is)
    (case c5 => k_is)
    (case k5 => k_is)
    (case a6 => k_is)
    (case l6 => k_is)
    (case c6 => k_is)
    (case k6 => k_is)
    (case a7 => k_is)
    (case l7 => k_is)
    (case c7 => k_is)
    (case k7 => k_is)
    (case a8 => k_is)
    (case l8 => k_is)
    (case c8 => k_is)
    (case k8 => k_is)
    (case a9 => k_is)
    (case l9 => k_is)
    (case c9 => k_is)
    (case k9 => k_is)
    (case a10 => k_is)
    (case l10 => k_is)
    (case c10 => k_is)
    (case k10 => k_is)
    (case a11 => k_is)
    (case l11 => k_is)
    (case c11 => k_is)
    (case k11 => k_is)
    (case a12 => k_is)
    (case l12 => k_is)
    (case c12 => k_is)
    (case k12 => k_is)
    (case a13 => k_is)
    (case l13 => k_is)
    (case c13 => k_is)
    (case k13 => k_is)
    (case a14 => k_is)
    (case l14 => k_is)
    (case c14 => k_is)
    (case k14 => k_is)
    (case a15 => k_is)
    (case l15 => k_is)
    (case c15 => k_is)
    (case k15 => k_is)
    (case z_abs => k_is)
    (case z_all => k_is)
    (case z_int => k_is)
    (case z_isinstance => k_is)
    (case z_len => k_is)
    (case z_list => k_is)
    (case z_max => k_is)
    (case z_min => k_is)
    (case z_range => k_is)
    (case z_repr => k_is)
    (case z_str => k_is)
    (case z_tuple => k_is)
    (case z_BURNS => k_is)
    (case z_DARK => k_is)
    (case z_MOST_PAIRS => k_is)
    (case z_SIGNS => k_is)
    (case xaH => k_is)
    (case xeH => k_is)
    (case xiH => k_is)
    (case xtH => k_is)
    (case xnH => k_is)
    (case xsH => k_is)
    (case xop => k_is)
    (case xmS => k_is)
    (case xhn => k_is)
    (case xht => k_is)
    (case xtop => first | rfl | decide | decide +kernel)
    (case xaBadState => k_is)
    (case xxBadState => k_is)
    (case xsaBadState => k_is)
    (case xgaBadState => k_is)
    (case xggBadState => k_is)
    (case xhaBadState => k_is)
    (case xiBadState => k_is)
    (case xtBadState => k_is)
    (case xlBadState => k_is)
    (case xc1BadState => k_is)
    (case xlcBadState => k_is)
    (case xv2BadState => rfl)
    (case xflBadState => first | rfl | decide | decide +kernel)
    (case xccBadState => k_is)
    (case xkCBadState => k_is)
    (case xeCBadState => k_is)
    (case xtCBadState => k_is)
    (case xhCBadState => k_is)
    (case xiCBadState => k_is)
    (case xmoBadState => k_is)
    (case xmCBadState => k_is)
    (case xsBBadState => k_is)
    (case xsuBadState => ks_is)
    (case xsHBadState => k_is)
    (case xfBadState_part => k_is)
    (case ynBadState => k_is)
    (case yyBadState => k_is)
    (case q8 => k_is)

