import PyProof.Rows.All
import HandS.ForMost
import HandS.Style
import HandS.TupAny
import HandS.IsInst
import KE.KDictKeyed
import HandS.Lambda
import HandS.DictComp
import HandS.SetFor
import HandS.SetTxt0
import HandS.Iter
import HandS.HotCalls
import PySem.Challenge.RW_roomfeud_k06_whole_fights
import HandS.WordsExc
import HandS.ExcOwn
import HandS.ExcIs
import HandS.Text
import HandS.ExcCtx
import HandS.EndTab
import HandS.HeadWalk
import KE.KNestM
set_option Elab.async false
set_option linter.all false
set_option maxRecDepth 100000
set_option maxHeartbeats 4400000
/-! L3: the data layer. Tuples are plain data; lists and dicts stand in a small heap. -/
namespace L3
open PySem PySem.Spec PyProof.Rows L2

/-- data: what a value is, tuples as a whole -/
inductive D where
  | non | bl (b : Bool) | int (i : Int) | str (x : Str) | tup (ds : List D) | obj (a : Addr) | ty (n : String) | ls (ns : List Int)

/-- a stand of a house -/
structure Stand where
  lv : Int
  ht : Bool
  wd : Bool
  ph : Int
  p0 : Nat
  p1 : Nat
  deriving DecidableEq

def standD (s : Stand) : D := .tup [.int s.lv, .bl s.ht, .bl s.wd, .int s.ph, .tup [.int (.ofNat s.p0), .int (.ofNat s.p1)]]
def toStand : D → Option Stand
  | .tup [.int a, .bl b, .bl c, .int d, .tup [.int (.ofNat e), .int (.ofNat f)]] => some ⟨a, b, c, d, e, f⟩
  | _ => none
theorem toStand_standD (s : Stand) : toStand (standD s) = some s := rfl
theorem of_toStand {d : D} {s : Stand} (h : toStand d = some s) : d = standD s := by
  unfold toStand at h
  split at h
  · cases h; rfl
  · cases h
def bI (b : Bool) : Int := if b = true then 1 else 0
theorem bI_inj {a b : Bool} (h : bI a = bI b) : a = b := by
  cases a <;> cases b <;> simp_all [bI]
def keyS (s : Stand) : NestedKey := .tup [.num s.lv, .num (bI s.ht), .num (bI s.wd), .num s.ph, .tup [.num (.ofNat s.p0), .num (.ofNat s.p1)]]
theorem keyS_inj {s t : Stand} (h : keyS s = keyS t) : s = t := by
  unfold keyS at h
  simp only [NestedKey.tup.injEq, List.cons.injEq, NestedKey.num.injEq, and_true] at h
  obtain ⟨h1, h2, h3, h4, h5, h6⟩ := h
  cases s; cases t
  simp only at h1 h2 h3 h4 h5 h6
  rw [h1, bI_inj h2, bI_inj h3, h4, Int.ofNat.inj h5, Int.ofNat.inj h6]

section rel
variable (K : PySem.W.Frag)
/-- a tuple that stands: tracked, or of the top -/
def Tp (H : Hp) (a : Addr) (xs : List V) : Prop := H a = some (.tup xs) ∨ ∃ (o : Obj) (its : Array Value) (n : Nat), K.lookup a = some o ∧ o.cls = .type "tuple" ∧ o.data = .seq its n ∧ its.size ≤ sizeLine ∧ Vals xs its.toList
/-- a list of ints that stays: the script, where it is frozen -/
def Fz (H : Hp) (a : Addr) (xs : List V) : Prop := (∃ o, H a = some (.frz o (.lst xs))) ∨ ∃ (o : Obj) (its : Array Value) (n : Nat), K.lookup a = some o ∧ o.cls = .type "list" ∧ o.dict = none ∧ o.data = .seq its n ∧ its.size ≤ sizeLine ∧ Vals xs its.toList
mutual
inductive T (H : Hp) : V → D → Prop
  | non : T H .non .non
  | bl (b : Bool) : T H (.bl b) (.bl b)
  | int (i : Int) : T H (.int i) (.int i)
  | str (x : Str) : T H (.str x) (.str x)
  | obj (a : Addr) : T H (.ref a) (.obj a)
  | ty (n : String) : T H (.ty n) (.ty n)
  | tup {a : Addr} {xs : List V} {ds : List D} : Tp K H a xs → Ts H xs ds → T H (.ref a) (.tup ds)
  | ls {a : Addr} {ns : List Int} : Fz K H a (ns.map V.int) → T H (.ref a) (.ls ns)
inductive Ts (H : Hp) : List V → List D → Prop
  | nil : Ts H [] []
  | cons {v : V} {vs : List V} {d : D} {ds : List D} : T H v d → Ts H vs ds → Ts H (v :: vs) (d :: ds)
end
end rel

section
variable {K : PySem.W.Frag} {H H' : Hp}
theorem Tp.sq {a : Addr} {xs : List V} (h : Tp K H a xs) : SqT K H a xs := by
  rcases h with h | h
  · exact .inl (.inl h)
  · exact .inr h
theorem Fz.sq {a : Addr} {xs : List V} (h : Fz K H a xs) : SqL K H a xs := by
  rcases h with ⟨o, h⟩ | h
  · exact .inl (.inr ⟨o, h⟩)
  · exact .inr h
/-- what never changes stays -/
structure TS (H H' : Hp) : Prop where
  tup : ∀ a xs, H a = some (.tup xs) → H' a = some (.tup xs)
  frz : ∀ a o u, H a = some (.frz o u) → H' a = some (.frz o u)
  cod : ∀ a q, H a = some (LamX.CodeO a q) → H' a = some (LamX.CodeO a q)
/-- it may change -/
structure Sf (a : Addr) (u : HO) : Prop where
  tup : ∀ xs, u ≠ .tup xs
  frz : ∀ o v, u ≠ .frz o v
  cod : ∀ q, u ≠ LamX.CodeO a q
theorem Sf.lst {a : Addr} {xs : List V} : Sf a (.lst xs) := ⟨fun _ z => (nomatch z), fun _ _ z => (nomatch z), fun _ z => (nomatch z)⟩
theorem TS.rfl' : TS H H := ⟨fun _ _ h => h, fun _ _ _ h => h, fun _ _ h => h⟩
theorem TS.tr {H1 H2 : Hp} (a : TS H H1) (b : TS H1 H2) : TS H H2 := ⟨fun c xs h => b.tup c xs (a.tup c xs h), fun c o u h => b.frz c o u (a.frz c o u h), fun c q h => b.cod c q (a.cod c q h)⟩
theorem TS.new {p : Addr} {o : HO} (h : H p = none) : TS H (upd H p o) := ⟨fun b xs e => by rw [upd_ne (ne_of_none e h)]; exact e, fun b o u e => by rw [upd_ne (ne_of_none e h)]; exact e, fun b q e => by rw [upd_ne (ne_of_none e h)]; exact e⟩
theorem TS.over {p : Addr} {o u : HO} (h : H p = some u) (hs : Sf p u) : TS H (upd H p o) := by
  have ne : ∀ b v, H b = some v → (b = p → v = u → False) → b ≠ p := fun b v e n c => n c (by rw [c, h] at e; exact (Option.some.inj e).symm)
  refine ⟨fun b xs e => ?_, fun b o' v e => ?_, fun b q e => ?_⟩
  · rw [upd_ne (ne b _ e fun _ z => hs.tup xs z.symm)]; exact e
  · rw [upd_ne (ne b _ e fun _ z => hs.frz o' v z.symm)]; exact e
  · rw [upd_ne (ne b _ e fun c z => hs.cod q (by rw [← c]; exact z.symm))]; exact e
theorem Fz.keep {a : Addr} {xs : List V} (t : TS H H') (h : Fz K H a xs) : Fz K H' a xs := by
  rcases h with ⟨o, h⟩ | h
  · exact .inl ⟨o, t.frz _ _ _ h⟩
  · exact .inr h
theorem Tp.keep {a : Addr} {xs : List V} (t : TS H H') (h : Tp K H a xs) : Tp K H' a xs := by
  rcases h with h | h
  · exact .inl (t.tup _ _ h)
  · exact .inr h
mutual
theorem T.keep (t : TS H H') : ∀ {v : V} {d : D}, T K H v d → T K H' v d
  | _, _, .non => .non
  | _, _, .bl b => .bl b
  | _, _, .int i => .int i
  | _, _, .str x => .str x
  | _, _, .obj a => .obj a
  | _, _, .ty a => .ty a
  | _, _, .tup h1 h2 => .tup (h1.keep t) (Ts.keep t h2)
  | _, _, .ls h => .ls (h.keep t)
theorem Ts.keep (t : TS H H') : ∀ {v : List V} {d : List D}, Ts K H v d → Ts K H' v d
  | _, _, .nil => .nil
  | _, _, .cons h1 h2 => .cons (T.keep t h1) (Ts.keep t h2)
end
theorem Ts.len : ∀ {vs : List V} {ds : List D}, Ts K H vs ds → vs.length = ds.length
  | _, _, .nil => rfl
  | _, _, .cons _ h => by rw [List.length_cons, List.length_cons, Ts.len h]
theorem Ts.app : ∀ {vs : List V} {ds : List D} {us : List V} {es : List D}, Ts K H vs ds → Ts K H us es → Ts K H (vs ++ us) (ds ++ es)
  | _, _, _, _, .nil, h => h
  | _, _, _, _, .cons a b, h => .cons a (Ts.app b h)
theorem Ts.at : ∀ {vs : List V} {ds : List D} {i : Nat} {d : D}, Ts K H vs ds → ds[i]? = some d → ∃ v, vs[i]? = some v ∧ T K H v d
  | _, _, i, d, .nil, h => by simp at h
  | _, _, 0, d, .cons a b, h => by simp at h; subst h; exact ⟨_, rfl, a⟩
  | _, _, i + 1, d, .cons a b, h => by
    obtain ⟨v, h1, h2⟩ := Ts.at (i := i) (d := d) b (by simpa using h)
    exact ⟨v, by simpa using h1, h2⟩
theorem Ts.at' : ∀ {vs : List V} {ds : List D} {i : Nat} {v : V}, Ts K H vs ds → vs[i]? = some v → ∃ d, ds[i]? = some d ∧ T K H v d
  | _, _, i, d, .nil, h => by simp at h
  | _, _, 0, d, .cons a b, h => by simp at h; subst h; exact ⟨_, rfl, a⟩
  | _, _, i + 1, d, .cons a b, h => by
    obtain ⟨v, h1, h2⟩ := Ts.at' (i := i) (v := d) b (by simpa using h)
    exact ⟨v, by simpa using h1, h2⟩
theorem Ts.take : ∀ {vs : List V} {ds : List D} (n : Nat), Ts K H vs ds → Ts K H (vs.take n) (ds.take n)
  | _, _, 0, _ => .nil
  | _, _, _ + 1, .nil => .nil
  | _, _, n + 1, .cons a b => .cons a (Ts.take n b)
theorem Ts.drop : ∀ {vs : List V} {ds : List D} (n : Nat), Ts K H vs ds → Ts K H (vs.drop n) (ds.drop n)
  | _, _, 0, h => h
  | _, _, _ + 1, .nil => .nil
  | _, _, n + 1, .cons a b => Ts.drop n b
theorem Ts.dropLast {vs : List V} {ds : List D} (h : Ts K H vs ds) : Ts K H vs.dropLast ds.dropLast := by
  rw [List.dropLast_eq_take, List.dropLast_eq_take, h.len]
  exact h.take _
theorem Ts.setAt : ∀ {vs : List V} {ds : List D} (i : Nat) {v : V} {d : D}, Ts K H vs ds → T K H v d → Ts K H (vs.set i v) (ds.set i d)
  | _, _, _, _, _, .nil, _ => .nil
  | _, _, 0, _, _, .cons _ b, h => .cons h b
  | _, _, i + 1, _, _, .cons a b, h => .cons a (Ts.setAt i b h)
end

/-! ### the small heap -/
inductive MO where
  | lst (ds : List D)
  | dct (o : Obj) (kvs : List (Stand × D))
  | tab (q : Str)
abbrev Mm := Addr → Option MO
def mset (M : Mm) (a : Addr) (o : MO) : Mm := fun b => if b = a then some o else M b
theorem mset_same {M : Mm} {a : Addr} {o : MO} : mset M a o a = some o := if_pos rfl
theorem mset_ne {M : Mm} {a b : Addr} {o : MO} (h : b ≠ a) : mset M a o b = M b := if_neg h
theorem mset_mset {M : Mm} {a : Addr} {o u : MO} : mset (mset M a o) a u = mset M a u := by
  funext b; unfold mset; split <;> rfl
theorem mne {M : Mm} {a b : Addr} {o : MO} (h : M a = some o) (h' : M b = none) : a ≠ b := by
  rintro rfl; exact nomatch h.symm.trans h'
/-- less is known -/
def Le (M M' : Mm) : Prop := ∀ a o, M a = some o → M' a = some o
theorem Le.rfl' {M : Mm} : Le M M := fun _ _ h => h
theorem Le.tr {M M1 M2 : Mm} (a : Le M M1) (b : Le M1 M2) : Le M M2 := fun c o h => b c o (a c o h)
theorem Le.new {M : Mm} {p : Addr} {o : MO} (h : M p = none) : Le M (mset M p o) := fun b u e => by
  rw [mset_ne (mne e h)]; exact e
theorem Le.free {M M' : Mm} (e : Le M M') {p : Addr} (h : M' p = none) : M p = none := by
  cases q : M p with
  | none => rfl
  | some o => rw [e p o q] at h; cases h

section
variable (P : Program) (w : World) (K : PySem.W.Frag)
/-- the entries of a dict object -/
def DObj (a : Addr) (o : Obj) (xs : List (NestedKey × Addr × Value)) : Prop :=
  xs.length ≤ sizeLine ∧ (a == sysModules) = false ∧ o.ExactDict ∧ ∃ es ep, o.data = .dict es ep ∧ es.toList = xs.map (entryOfKey (nestedKind P w)) ∧ (xs.map (·.1)).Nodup
def KD (H : Hp) : (Stand × D) → (NestedKey × Addr × Value) → Prop := fun kv x =>
  x.1 = keyS kv.1 ∧ T K H (.ref x.2.1) (standD kv.1) ∧ ∃ v, RelV v x.2.2 ∧ T K H v kv.2
/-- the object at a, exactly -/
def exo (a : Addr) (o : Obj) : HO := .ext fun h => h.get? a = some o
def OOk (H : Hp) (a : Addr) : MO → Prop
  | .lst ds => ∃ xs, H a = some (.lst xs) ∧ Ts K H xs ds
  | .dct o kvs => ∃ xs, H a = some (exo a o) ∧ DObj P w a o xs ∧ Paired (KD K H) kvs xs
  | .tab q => LamX.TabS H a q
def MOk (M : Mm) (H : Hp) : Prop := ∀ a o, M a = some o → OOk P w K H a o
end
section
variable {P : Program} {w : World} {K : PySem.W.Frag} {M M' : Mm} {H H' : Hp}
theorem MOk.weak (h : MOk P w K M' H) (e : Le M M') : MOk P w K M H := fun a o q => h a o (e a o q)
theorem MOk.lst (h : MOk P w K M H) {a : Addr} {ds : List D} (e : M a = some (.lst ds)) : ∃ xs, H a = some (.lst xs) ∧ Ts K H xs ds := h a _ e
theorem MOk.free (h : MOk P w K M H) {p : Addr} (e : H p = none) : M p = none := by
  cases q : M p with
  | none => rfl
  | some o =>
    have z := h p o q
    cases o with
    | lst ds => obtain ⟨xs, z, _⟩ := z; rw [e] at z; cases z
    | dct o kvs => obtain ⟨xs, z, _⟩ := z; rw [e] at z; cases z
    | tab q => obtain ⟨ps, z, _⟩ := z; rw [e] at z; cases z
theorem KD.keep (t : TS H H') {kv : Stand × D} {x : NestedKey × Addr × Value} (h : KD K H kv x) : KD K H' kv x :=
  ⟨h.1, h.2.1.keep t, h.2.2.elim fun v z => ⟨v, z.1, z.2.keep t⟩⟩
/-- what is known stays where the object stays -/
theorem OOk.keep (t : TS H H') {a : Addr} {o : MO} (e : H' a = H a) (h : OOk P w K H a o) : OOk P w K H' a o := by
  cases o with
  | lst ds => obtain ⟨xs, h1, h2⟩ := h; exact ⟨xs, by rw [e]; exact h1, h2.keep t⟩
  | dct o kvs => obtain ⟨xs, h1, h2, h3⟩ := h; exact ⟨xs, by rw [e]; exact h1, h2, Paired.mapP h3 fun _ _ z => KD.keep t z⟩
  | tab q => obtain ⟨ps, h1, h2, h3⟩ := h; exact ⟨ps, by rw [e]; exact h1, h2, fun pos cv hc => let ⟨c, e1, e2⟩ := h3 pos cv hc; ⟨c, e1, t.cod _ _ e2⟩⟩
theorem exo_sf {a : Addr} {o : Obj} (hd : ∃ es ep, o.data = .dict es ep) : Sf a (exo a o) := by
  refine ⟨fun _ z => (nomatch z), fun _ _ z => (nomatch z), fun q z => ?_⟩
  obtain ⟨es, ep, hd⟩ := hd
  have e : (fun h : Heap => h.get? a = some o) = fun h => ∃ (oc : Obj) (vs : Array Value) (t : Tok), h.get? a = some oc ∧ oc.data = .fields vs ∧ vs[1]? = some (.str q t) := HO.ext.inj z
  have g : (⟨Array.replicate (a + 1) o, {}⟩ : Heap).get? a = some o := Heap.get?_some_iff.mpr ⟨by simp, by obtain ⟨oc, od, oda, os⟩ := o; simp only at hd; subst hd; rfl⟩
  have g2 := (congrFun e ⟨Array.replicate (a + 1) o, {}⟩).mp g
  obtain ⟨oc, vs, t, h1, h2, _⟩ := g2
  rw [g] at h1
  cases h1
  rw [hd] at h2
  cases h2
theorem OOk.some {a : Addr} {o : MO} (h : OOk P w K H a o) : ∃ u, H a = some u ∧ Sf a u := by
  cases o with
  | lst ds => obtain ⟨xs, h1, h2⟩ := h; exact ⟨_, h1, Sf.lst⟩
  | dct o kvs => obtain ⟨xs, h1, h2, h3⟩ := h; obtain ⟨_, _, _, es, ep, hd, _⟩ := h2; exact ⟨_, h1, exo_sf ⟨es, ep, hd⟩⟩
  | tab q => obtain ⟨ps, h1, h2, h3⟩ := h; exact ⟨_, h1, ⟨fun _ z => (nomatch z), fun _ _ z => (nomatch z), fun _ z => (nomatch z)⟩⟩
/-- a new object -/
theorem MOk.new (h : MOk P w K M H) {p : Addr} {u : HO} (hp : H p = none) : MOk P w K M (upd H p u) := fun a o e => by
  obtain ⟨v, hv, _⟩ := (h a o e).some
  exact (h a o e).keep (TS.new hp) (upd_ne (ne_of_none hv hp))
theorem MOk.add (h : MOk P w K M H) {p : Addr} {u : HO} {o : MO} (hp : H p = none) (ho : OOk P w K (upd H p u) p o) : MOk P w K (mset M p o) (upd H p u) := fun a z e => by
  by_cases q : a = p
  · subst q; rw [mset_same] at e; cases e; exact ho
  · rw [mset_ne q] at e; exact h.new hp a z e
/-- an object is changed -/
theorem MOk.set (h : MOk P w K M H) {p : Addr} {u : HO} {o o' : MO} (hp : M p = some o) (ho : OOk P w K (upd H p u) p o') : MOk P w K (mset M p o') (upd H p u) := fun a z e => by
  by_cases q : a = p
  · subst q; rw [mset_same] at e; cases e; exact ho
  · rw [mset_ne q] at e
    obtain ⟨v, hv, hn⟩ := (h p o hp).some
    exact (h a z e).keep (TS.over hv hn) (upd_ne q)
theorem MOk.tso (h : MOk P w K M H) {p : Addr} {u : HO} {o : MO} (hp : M p = some o) : TS H (upd H p u) := by
  obtain ⟨v, hv, hn⟩ := (h p o hp).some
  exact TS.over hv hn
theorem MOk.addL (h : MOk P w K M H) {p : Addr} {xs : List V} {ds : List D} (hp : H p = Option.none) (ht : Ts K H xs ds) : MOk P w K (mset M p (.lst ds)) (upd H p (.lst xs)) :=
  h.add hp ⟨xs, upd_same, ht.keep (TS.new hp)⟩
theorem MOk.setL (h : MOk P w K M H) {p : Addr} {o : MO} {xs : List V} {ds : List D} (hp : M p = some o) (ht : Ts K H xs ds) : MOk P w K (mset M p (.lst ds)) (upd H p (.lst xs)) :=
  h.set hp ⟨xs, upd_same, ht.keep (h.tso hp)⟩
end

/-! ### slots -/
abbrev Ge := List (Option D)
section
variable (K : PySem.W.Frag)
def EO (H : Hp) : Option V → Option D → Prop
  | _, none => True
  | some v, some d => T K H v d
  | none, some _ => False
def EOk (H : Hp) (σ : L2.St) (Γ : Ge) : Prop := Paired (EO K H) σ Γ
end
section
variable {K : PySem.W.Frag} {H H' : Hp} {σ : L2.St} {Γ : Ge}
theorem EO.keep (t : TS H H') : ∀ {a : Option V} {b : Option D}, EO K H a b → EO K H' a b
  | _, none, _ => by unfold EO; split <;> trivial
  | some v, some d, h => T.keep t (show T K H v d from h)
  | none, some _, h => (show False from h).elim
theorem EOk.keep (t : TS H H') (h : EOk K H σ Γ) : EOk K H' σ Γ := Paired.mapP h fun _ _ z => EO.keep t z
theorem EOk.at : ∀ {σ : L2.St} {Γ : Ge} {i : Nat} {d : D}, EOk K H σ Γ → Γ[i]? = some (some d) → ∃ v, σ[i]? = some (some v) ∧ T K H v d
  | _, _, i, d, .nil, h => by simp at h
  | a :: _, _, 0, d, .cons x _, h => by
    simp at h; subst h
    cases a with
    | none => exact (show False from x).elim
    | some v => exact ⟨v, rfl, x⟩
  | _, _, i + 1, d, .cons _ y, h => by
    obtain ⟨v, h1, h2⟩ := EOk.at (i := i) (d := d) y (by simpa using h)
    exact ⟨v, by simpa using h1, h2⟩
theorem EOk.put : ∀ {σ : L2.St} {Γ : Ge} (i : Nat) {v : Option V} {d : Option D}, EOk K H σ Γ → EO K H v d → EOk K H (σ.set i v) (Γ.set i d)
  | _, _, _, _, _, .nil, _ => .nil
  | _, _, 0, _, _, .cons _ b, h => .cons h b
  | _, _, i + 1, _, _, .cons a b, h => .cons a (EOk.put i b h)
theorem EOk.set {i : Nat} {v : V} {d : D} (h : EOk K H σ Γ) (t : T K H v d) : EOk K H (σ.set i (some v)) (Γ.set i (some d)) := h.put i t
end

/-! ### readings over data -/
abbrev QD := D → Mm → Prop
abbrev DTE := Ge → Mm → QD → Prop
abbrev DTT := Ge → Mm → (Bool → Mm → Prop) → Prop
abbrev DTA := Ge → Mm → (List D → Mm → Prop) → Prop
structure DEn where
  nx : Ge → Mm → Prop
  rt : QD
  bk : Ge → Mm → Prop := fun _ _ => False
  ct : Ge → Mm → Prop := fun _ _ => False
abbrev DTS := DEn → Ge → Mm → Prop
def ask {α : Type} (o : Option α) (k : α → Prop) : Prop := match o with
  | some a => k a
  | none => False
theorem ask_some {α : Type} {a : α} {k : α → Prop} : ask (some a) k = k a := rfl
theorem ask_ok {α : Type} {o : Option α} {k : α → Prop} (h : ask o k) : ∃ a, o = some a ∧ k a := by
  cases o with
  | none => exact h.elim
  | some a => exact ⟨a, rfl, h⟩

section
variable (P : Program) (w : World) (K : PySem.W.Frag)
def lE (t : DTE) : TE := fun σ H R => ∃ Γ M Q, EOk K H σ Γ ∧ MOk P w K M H ∧ t Γ M Q ∧ ∀ d M' v H', Q d M' → TS H H' → MOk P w K M' H' → T K H' v d → R v H'
def lT (t : DTT) : TT := fun σ H R => ∃ Γ M Q, EOk K H σ Γ ∧ MOk P w K M H ∧ t Γ M Q ∧ ∀ b M' H', Q b M' → TS H H' → MOk P w K M' H' → R b H'
def lA (t : DTA) : TA := fun σ H R => ∃ Γ M Q, EOk K H σ Γ ∧ MOk P w K M H ∧ t Γ M Q ∧ ∀ ds M' vs H', Q ds M' → TS H H' → MOk P w K M' H' → Ts K H' vs ds → R vs H'
def lS (t : DTS) : L2.TS := fun Dn σ H => ∃ Γ M En, EOk K H σ Γ ∧ MOk P w K M H ∧ t En Γ M ∧
  (∀ Γ' M' σ' H', En.nx Γ' M' → TS H H' → MOk P w K M' H' → EOk K H' σ' Γ' → Dn.nx σ' H') ∧
  (∀ d M' v H', En.rt d M' → TS H H' → MOk P w K M' H' → T K H' v d → Dn.rt v H') ∧
  (∀ Γ' M' σ' H', En.bk Γ' M' → TS H H' → MOk P w K M' H' → EOk K H' σ' Γ' → Dn.bk σ' H') ∧
  (∀ Γ' M' σ' H', En.ct Γ' M' → TS H H' → MOk P w K M' H' → EOk K H' σ' Γ' → Dn.ct σ' H')
/-- an operation on two data, on one, on a list of arguments -/
abbrev DR2 := D → D → Mm → QD → Prop
def l2 (r : DR2) : R2 := fun x y H R => ∃ dx dy M Q, T K H x dx ∧ T K H y dy ∧ MOk P w K M H ∧ r dx dy M Q ∧ ∀ d M' v H', Q d M' → TS H H' → MOk P w K M' H' → T K H' v d → R v H'
abbrev DRA := List D → Mm → QD → Prop
def lR (r : DRA) : List V → Hp → VK → Prop := fun xs H R => ∃ ds M Q, Ts K H xs ds ∧ MOk P w K M H ∧ r ds M Q ∧ ∀ d M' v H', Q d M' → TS H H' → MOk P w K M' H' → T K H' v d → R v H'
end
abbrev DE (X : Cx) (e : Expr) (t : DTE) : Prop := PE X e (lE X.prog X.w X.K t)
abbrev DT (X : Cx) (e : Expr) (t : DTT) : Prop := PT X e (lT X.prog X.w X.K t)
abbrev DW (X : Cx) (e : Expr) (t : DTT) : Prop := PW X e (lT X.prog X.w X.K t)
abbrev DA (X : Cx) (es : List Expr) (t : DTA) : Prop := PA X es (lA X.prog X.w X.K t)
abbrev DS (X : Cx) (st : Stmt) (t : DTS) : Prop := PS X st (lS X.prog X.w X.K t)
abbrev DSs (X : Cx) (st : List Stmt) (t : DTS) : Prop := PSs X st (lS X.prog X.w X.K t)
abbrev DOp (X : Cx) (f : Value → Value → Sem Value) (r : DR2) : Prop := OpR X f (l2 X.prog X.w X.K r)
abbrev DCall (X : Cx) (f : Value) (r : DRA) : Prop := CallR X f (lR X.prog X.w X.K r)

/-! ### weakening of the layer below -/
section
variable {X : Cx} {e : Expr} {es : List Expr} {st : Stmt} {sts : List Stmt}
theorem pe_imp {t t' : TE} (h : PE X e t) (i : ∀ σ H Q, t' σ H Q → t σ H Q) : PE X e t' := ⟨fun pins s σ H Q I q => h.run pins s σ H Q I (i _ _ _ q)⟩
theorem pt_imp {t t' : TT} (h : PT X e t) (i : ∀ σ H Q, t' σ H Q → t σ H Q) : PT X e t' := ⟨fun pins s σ H Q I q => h.run pins s σ H Q I (i _ _ _ q)⟩
theorem pw_imp {t t' : TT} (h : PW X e t) (i : ∀ σ H Q, t' σ H Q → t σ H Q) : PW X e t' := ⟨fun wh pins s σ H Q I q => h.run wh pins s σ H Q I (i _ _ _ q)⟩
theorem pa_imp {t t' : TA} (h : PA X es t) (i : ∀ σ H Q, t' σ H Q → t σ H Q) : PA X es t' := ⟨fun pos pins s σ H Q I q => h.run pos pins s σ H Q I (i _ _ _ q)⟩
theorem ps_imp {t t' : L2.TS} (h : PS X st t) (i : ∀ D σ H, t' D σ H → t D σ H) : PS X st t' := ⟨fun pins s σ H D I q => h.run pins s σ H D I (i _ _ _ q)⟩
theorem pss_imp {t t' : L2.TS} (h : PSs X sts t) (i : ∀ D σ H, t' D σ H → t D σ H) : PSs X sts t' := ⟨fun pins s σ H D I q => h.run pins s σ H D I (i _ _ _ q)⟩
theorem op_imp {f : Value → Value → Sem Value} {r r' : R2} (h : OpR X f r) (i : ∀ x y H Q, r' x y H Q → r x y H Q) : OpR X f r' :=
  fun pins s σ H x y v u Q I rx ry q => h pins s σ H x y v u Q I rx ry (i _ _ _ _ q)
theorem call_imp {f : Value} {r r' : List V → Hp → VK → Prop} (h : CallR X f r) (i : ∀ x H Q, r' x H Q → r x H Q) : CallR X f r' :=
  fun pins s σ H x v Q I rx q => h pins s σ H x v Q I rx (i _ _ _ q)
end

/-! ### names, constants -/
section
variable {X : Cx} {e a b c : Expr} {es rest : List Expr} {pos : Pos} {t ta tb tc : DTE}
def dVar (i : Nat) : DTE := fun Γ M Q => ask (Γ.getD i none) fun d => Q d M
def dC (d : D) : DTE := fun _ M Q => Q d M
theorem getD_at {Γ : Ge} {i : Nat} {d : D} (h : Γ.getD i none = some d) : Γ[i]? = some (some d) := by
  rw [List.getD_eq_getElem?_getD] at h
  cases q : Γ[i]? with
  | none => rw [q] at h; cases h
  | some o => rw [q] at h; simp at h; rw [h]
theorem de_pe {i : Nat} (h : PE X e (tVar i)) : DE X e (dVar i) := pe_imp h fun σ H R ⟨Γ, M, Q, ee, mm, h, f⟩ => by
  obtain ⟨d, e1, h⟩ := ask_ok h
  obtain ⟨v, e2, r⟩ := ee.at (getD_at e1)
  exact ⟨v, e2, f d M v H h TS.rfl' mm r⟩
theorem dv (i : Nat) {x : Str} {pos : Pos} (hN : X.N[i]? = some x := by rfl) (hv : Vis X.env.scope x := by first | exact Or.inl rfl | exact Or.inr (Or.inl rfl) | exact Or.inr (Or.inr rfl))
    (hd : (x == ("__debug__" : Str)) = false := by decide) (hcd : (x == ("__classdict__" : Str)) = false := by decide) : DE X (.Name x pos) (dVar i) := de_pe (pe_var hN hv hd hcd)
theorem de_c {v : V} {d : D} (h : PE X e (tC v)) (r : ∀ H, T X.K H v d) : DE X e (dC d) := pe_imp h fun σ H R ⟨Γ, M, Q, ee, mm, h, f⟩ =>
  f d M v H h TS.rfl' mm (r H)
theorem de_int {i j pos} : DE X (.Constant (.int i) j pos) (dC (.int i)) := de_c pe_int fun _ => .int i
theorem de_bl {i j pos} : DE X (.Constant (.bool i) j pos) (dC (.bl i)) := de_c pe_bl fun _ => .bl i
theorem de_str {i j pos} : DE X (.Constant (.str i) j pos) (dC (.str i)) := de_c pe_str fun _ => .str i
theorem de_non {j pos} : DE X (.Constant .none j pos) (dC .non) := de_c pe_non fun _ => .non
/-- a tuple of the module's top -/
theorem de_globT {x : Str} {a : Addr} {xs : List V} {ds : List D} {pos : Pos} (hg : Gl X x) (hm : X.mg x = some (.ref a)) (ht : ∀ H, T X.K H (.ref a) (.tup ds)) (hd : (x == ("__debug__" : Str)) = false := by decide) : DE X (.Name x pos) (dC (.tup ds)) :=
  de_c (pe_glob (v := .ref a) hg hm rfl hd) ht

/-! ### operators -/
def dOp (r : DR2) (ta tb : DTE) : DTE := fun Γ M Q => ta Γ M fun x M1 => tb Γ M1 fun y M2 => r x y M2 Q
theorem l_op {P : Program} {w : World} {K : PySem.W.Frag} {r : DR2} {σ : L2.St} {H : Hp} {R : VK} (h : lE P w K (dOp r ta tb) σ H R) : tOp (l2 P w K r) (lE P w K ta) (lE P w K tb) σ H R := by
  obtain ⟨Γ, M, Q, ee, mm, h, f⟩ := h
  refine ⟨Γ, M, _, ee, mm, h, fun x M1 v1 H1 q1 t1 m1 r1 => ?_⟩
  refine ⟨Γ, M1, _, ee.keep t1, m1, q1, fun y M2 v2 H2 q2 t2 m2 r2 => ?_⟩
  exact ⟨x, y, M2, Q, r1.keep t2, r2, m2, q2, fun d M3 v H3 q3 t3 m3 r3 => f d M3 v H3 q3 (t1.tr (t2.tr t3)) m3 r3⟩
theorem de_op {op : Operator} {r : DR2} (ho : DOp X (binaryOp op) r) (ha : DE X a ta) (hb : DE X b tb) : DE X (.BinOp a op b pos) (dOp r ta tb) :=
  pe_imp (pe_op ho ha hb) fun _ _ _ h => l_op h
theorem de_cmp {op : CmpOp} {r : DR2} (ho : DOp X (compareOp op) r) (ha : DE X a ta) (hb : DE X b tb) (hm : behindInMarks op b = false) : DE X (.Compare a [op] [b] pos) (dOp r ta tb) :=
  pe_imp (pe_cmpR ho ha hb hm) fun _ _ _ h => l_op h
/-- a test of a bool value -/
def dB (t : DTE) : DTT := fun Γ M Q => t Γ M fun x M1 => match x with
  | .bl k => Q k M1
  | _ => False
theorem T.bl_inv {K : PySem.W.Frag} {H : Hp} {v : V} {b : Bool} (h : T K H v (.bl b)) : v = .bl b := by cases h; rfl
theorem T.int_inv {K : PySem.W.Frag} {H : Hp} {v : V} {b : Int} (h : T K H v (.int b)) : v = .int b := by cases h; rfl
theorem T.str_inv {K : PySem.W.Frag} {H : Hp} {v : V} {b : Str} (h : T K H v (.str b)) : v = .str b := by cases h; rfl
theorem T.non_inv {K : PySem.W.Frag} {H : Hp} {v : V} (h : T K H v .non) : v = .non := by cases h; rfl
theorem T.obj_inv {K : PySem.W.Frag} {H : Hp} {v : V} {a : Addr} (h : T K H v (.obj a)) : v = .ref a := by cases h; rfl
theorem T.tup_inv {K : PySem.W.Frag} {H : Hp} {v : V} {ds : List D} (h : T K H v (.tup ds)) : ∃ a xs, v = .ref a ∧ Tp K H a xs ∧ Ts K H xs ds := by cases h with | tup h1 h2 => exact ⟨_, _, rfl, h1, h2⟩
theorem dB_ok {k : Bool → Mm → Prop} {x : D} {M1 : Mm} (h : (match x with | .bl k' => k k' M1 | _ => False)) : ∃ b, x = .bl b ∧ k b M1 := by
  cases x with
  | bl b => exact ⟨b, rfl, h⟩
  | _ => exact h.elim
theorem dt_val (h : DE X e t) (he : ∀ whole, isTrue e X.env whole = (do let v ← whole; standAt e.pos; holding [v] (truthy v)) := by intro _; rfl) : DT X e (dB t) :=
  pt_imp (pt_val h he) fun σ H R ⟨Γ, M, Q, ee, mm, h, f⟩ => ⟨Γ, M, _, ee, mm, h, fun d M1 v H1 q t1 m1 r1 => by
    obtain ⟨b, rfl, q⟩ := dB_ok q
    exact ⟨b, r1.bl_inv, f b M1 H1 q t1 m1⟩⟩
theorem dt_cmp {op : CmpOp} {r : DR2} (ho : DOp X (compareOp op) r) (ha : DE X a ta) (hb : DE X b tb) (hm : behindInMarks op b = false) : DT X (.Compare a [op] [b] pos) (dB (dOp r ta tb)) :=
  pt_imp (pt_cmpR ho ha hb hm) fun σ H R ⟨Γ, M, Q, ee, mm, h, f⟩ => by
    refine l_op ⟨Γ, M, _, ee, mm, h, fun d M1 v H1 q t1 m1 r1 => ?_⟩
    obtain ⟨b, rfl, q⟩ := dB_ok q
    exact ⟨b, r1.bl_inv, f b M1 H1 q t1 m1⟩
/-- a chain of two comparisons -/
def dChain (r r' : DR2) (ta tb tc : DTE) : DTE := fun Γ M Q => ta Γ M fun x M1 => tb Γ M1 fun y M2 => r x y M2 fun z M3 => match z with
  | .bl k => if k = true then tc Γ M3 fun u M4 => r' y u M4 Q else Q (.bl false) M3
  | _ => False
theorem l_chain {P : Program} {w : World} {K : PySem.W.Frag} {r r' : DR2} {σ : L2.St} {H : Hp} {R : VK} (h : lE P w K (dChain r r' ta tb tc) σ H R) : tChain (l2 P w K r) (l2 P w K r') (lE P w K ta) (lE P w K tb) (lE P w K tc) σ H R := by
  obtain ⟨Γ, M, Q, ee, mm, h, f⟩ := h
  refine ⟨Γ, M, _, ee, mm, h, fun x M1 v1 H1 q1 t1 m1 r1 => ?_⟩
  refine ⟨Γ, M1, _, ee.keep t1, m1, q1, fun y M2 v2 H2 q2 t2 m2 r2 => ?_⟩
  refine ⟨x, y, M2, _, r1.keep t2, r2, m2, q2, fun d M3 v H3 q3 t3 m3 r3 => ?_⟩
  cases d with
  | bl k =>
    refine ⟨k, r3.bl_inv, ?_⟩
    cases k with
    | true =>
      dsimp only at q3
      rw [if_pos rfl] at q3 ⊢
      refine ⟨Γ, M3, _, ee.keep (t1.tr (t2.tr t3)), m3, q3, fun u M4 v4 H4 q4 t4 m4 r4 => ?_⟩
      exact ⟨y, u, M4, Q, r2.keep (t3.tr t4), r4, m4, q4, fun d M5 v H5 q5 t5 m5 r5 => f d M5 v H5 q5 (t1.tr (t2.tr (t3.tr (t4.tr t5)))) m5 r5⟩
    | false =>
      dsimp only at q3
      rw [if_neg Bool.false_ne_true] at q3 ⊢
      exact f _ M3 _ H3 q3 (t1.tr (t2.tr t3)) m3 (.bl false)
  | _ => exact q3.elim
theorem de_chain {op op' : CmpOp} {r r' : DR2} (ho : DOp X (compareOp op) r) (ho' : DOp X (compareOp op') r') (ha : DE X a ta) (hb : DE X b tb) (hc : DE X c tc) (h1 : PE X (.Compare a [op, op'] [b, c] pos) (tChain (l2 X.prog X.w X.K r) (l2 X.prog X.w X.K r') (lE X.prog X.w X.K ta) (lE X.prog X.w X.K tb) (lE X.prog X.w X.K tc)) := by exact pe_chain (by assumption) (by assumption) (by assumption) (by assumption) (by assumption)) :
    DE X (.Compare a [op, op'] [b, c] pos) (dChain r r' ta tb tc) := pe_imp h1 fun _ _ _ h => l_chain h

/-! ### and, or, not, if -/
variable {uA uB : DTT}
def dAnd (t u : DTT) : DTT := fun Γ M Q => t Γ M fun k M1 => if k = true then u Γ M1 Q else Q false M1
def dOr (t u : DTT) : DTT := fun Γ M Q => t Γ M fun k M1 => if k = true then Q true M1 else u Γ M1 Q
def dNot (t : DTT) : DTT := fun Γ M Q => t Γ M fun k M1 => Q (!k) M1
theorem dw_and1 (ha : DT X a uA) : DW X (.BoolOp .And [a] pos) uA := pw_and1 ha
theorem dw_or1 (ha : DT X a uA) : DW X (.BoolOp .Or [a] pos) uA := pw_or1 ha
theorem dw_and (ha : DT X a uA) (hb : DW X (.BoolOp .And (b :: rest) pos) uB) : DW X (.BoolOp .And (a :: b :: rest) pos) (dAnd uA uB) :=
  pw_imp (pw_and ha hb) fun σ H R ⟨Γ, M, Q, ee, mm, h, f⟩ => ⟨Γ, M, _, ee, mm, h, fun k M1 H1 q1 t1 m1 => by
    cases k with
    | true => exact ⟨Γ, M1, Q, ee.keep t1, m1, q1, fun k M2 H2 q2 t2 m2 => f k M2 H2 q2 (t1.tr t2) m2⟩
    | false => exact f false M1 H1 q1 t1 m1⟩
theorem dw_or (ha : DT X a uA) (hb : DW X (.BoolOp .Or (b :: rest) pos) uB) : DW X (.BoolOp .Or (a :: b :: rest) pos) (dOr uA uB) :=
  pw_imp (pw_or ha hb) fun σ H R ⟨Γ, M, Q, ee, mm, h, f⟩ => ⟨Γ, M, _, ee, mm, h, fun k M1 H1 q1 t1 m1 => by
    cases k with
    | false => exact ⟨Γ, M1, Q, ee.keep t1, m1, q1, fun k M2 H2 q2 t2 m2 => f k M2 H2 q2 (t1.tr t2) m2⟩
    | true => exact f true M1 H1 q1 t1 m1⟩
theorem dt_not (ha : DT X a uA) : DT X (.UnaryOp .Not a pos) (dNot uA) :=
  pt_imp (pt_not ha) fun σ H R ⟨Γ, M, Q, ee, mm, h, f⟩ => ⟨Γ, M, _, ee, mm, h, fun k M1 H1 q1 t1 m1 => f (!k) M1 H1 q1 t1 m1⟩
/-- as values: bools all but the last -/
def dAndV (ta tb : DTE) : DTE := fun Γ M Q => ta Γ M fun x M1 => match x with
  | .bl k => if k = true then tb Γ M1 Q else Q (.bl false) M1
  | _ => False
def dOrV (ta tb : DTE) : DTE := fun Γ M Q => ta Γ M fun x M1 => match x with
  | .bl k => if k = true then Q (.bl true) M1 else tb Γ M1 Q
  | _ => False
def dNotV (ta : DTE) : DTE := fun Γ M Q => ta Γ M fun x M1 => match x with
  | .bl k => Q (.bl (!k)) M1
  | _ => False
theorem de_one {op} (h : DE X a t) : DE X (.BoolOp op [a] pos) t := pe_one h
theorem de_and (ha : DE X a ta) (hb : DE X (.BoolOp .And (b :: rest) pos) tb) : DE X (.BoolOp .And (a :: b :: rest) pos) (dAndV ta tb) :=
  pe_imp (pe_and ha hb) fun σ H R ⟨Γ, M, Q, ee, mm, h, f⟩ => ⟨Γ, M, _, ee, mm, h, fun x M1 v1 H1 q1 t1 m1 r1 => by
    cases x with
    | bl k =>
      refine ⟨k, r1.bl_inv, ?_⟩
      cases k with
      | true => exact ⟨Γ, M1, Q, ee.keep t1, m1, q1, fun k M2 v H2 q2 t2 m2 r2 => f k M2 v H2 q2 (t1.tr t2) m2 r2⟩
      | false => exact f _ M1 _ H1 q1 t1 m1 (.bl false)
    | _ => exact q1.elim⟩
theorem de_or (ha : DE X a ta) (hb : DE X (.BoolOp .Or (b :: rest) pos) tb) : DE X (.BoolOp .Or (a :: b :: rest) pos) (dOrV ta tb) :=
  pe_imp (pe_or ha hb) fun σ H R ⟨Γ, M, Q, ee, mm, h, f⟩ => ⟨Γ, M, _, ee, mm, h, fun x M1 v1 H1 q1 t1 m1 r1 => by
    cases x with
    | bl k =>
      refine ⟨k, r1.bl_inv, ?_⟩
      cases k with
      | false => exact ⟨Γ, M1, Q, ee.keep t1, m1, q1, fun k M2 v H2 q2 t2 m2 r2 => f k M2 v H2 q2 (t1.tr t2) m2 r2⟩
      | true => exact f _ M1 _ H1 q1 t1 m1 (.bl true)
    | _ => exact q1.elim⟩
theorem de_not (ha : DE X a ta) : DE X (.UnaryOp .Not a pos) (dNotV ta) :=
  pe_imp (pe_not ha) fun σ H R ⟨Γ, M, Q, ee, mm, h, f⟩ => ⟨Γ, M, _, ee, mm, h, fun x M1 v1 H1 q1 t1 m1 r1 => by
    cases x with
    | bl k => exact ⟨k, r1.bl_inv, f _ M1 _ H1 q1 t1 m1 (.bl _)⟩
    | _ => exact q1.elim⟩
def dIf (u : DTT) (ta tb : DTE) : DTE := fun Γ M Q => u Γ M fun k M1 => if k = true then ta Γ M1 Q else tb Γ M1 Q
theorem de_if (hc : DT X c uA) (ha : DE X a ta) (hb : DE X b tb) : DE X (.IfExp c a b pos) (dIf uA ta tb) :=
  pe_imp (pe_ifExp hc ha hb) fun σ H R ⟨Γ, M, Q, ee, mm, h, f⟩ => ⟨Γ, M, _, ee, mm, h, fun k M1 H1 q1 t1 m1 => by
    cases k with
    | true => exact ⟨Γ, M1, Q, ee.keep t1, m1, q1, fun k M2 v H2 q2 t2 m2 r2 => f k M2 v H2 q2 (t1.tr t2) m2 r2⟩
    | false => exact ⟨Γ, M1, Q, ee.keep t1, m1, q1, fun k M2 v H2 q2 t2 m2 r2 => f k M2 v H2 q2 (t1.tr t2) m2 r2⟩⟩

/-! ### arguments, displays -/
variable {tr : DTA}
def dNil : DTA := fun _ M Q => Q [] M
def dCons (ta : DTE) (tr : DTA) : DTA := fun Γ M Q => ta Γ M fun x M1 => tr Γ M1 fun xs M2 => Q (x :: xs) M2
theorem da_nil : DA X [] dNil := pa_imp pa_nil fun σ H R ⟨Γ, M, Q, ee, mm, h, f⟩ => f [] M [] H h TS.rfl' mm .nil
theorem da_cons (ha : DE X e ta) (hr : DA X es tr) (hs : starEach (e :: es) X.env = (false, eval e X.env) :: starEach es X.env := by rfl) : DA X (e :: es) (dCons ta tr) :=
  pa_imp (pa_cons ha hr hs) fun σ H R ⟨Γ, M, Q, ee, mm, h, f⟩ => ⟨Γ, M, _, ee, mm, h, fun x M1 v1 H1 q1 t1 m1 r1 =>
    ⟨Γ, M1, _, ee.keep t1, m1, q1, fun xs M2 vs H2 q2 t2 m2 r2 => f (x :: xs) M2 (v1 :: vs) H2 q2 (t1.tr t2) m2 (.cons (r1.keep t2) r2)⟩⟩
def dTup (t : DTA) : DTE := fun Γ M Q => t Γ M fun ds M1 => ds.length ≤ sizeLine ∧ Q (.tup ds) M1
def dLst (t : DTA) : DTE := fun Γ M Q => t Γ M fun ds M1 => ds.length ≤ sizeLine ∧ ∀ p, M1 p = none → Q (.obj p) (mset M1 p (.lst ds))
theorem de_tup {k} (h : DA X es tr) : DE X (.Tuple es k pos) (dTup tr) :=
  pe_imp (pe_tup h) fun σ H R ⟨Γ, M, Q, ee, mm, h, f⟩ => ⟨Γ, M, _, ee, mm, h, fun ds M1 vs H1 q1 t1 m1 r1 =>
    ⟨by rw [r1.len]; exact q1.1, fun p hp => f (.tup ds) M1 (.ref p) _ q1.2 (t1.tr (TS.new hp)) (m1.new hp) (.tup (.inl upd_same) (r1.keep (TS.new hp)))⟩⟩
theorem de_lst (h : DA X es tr) : DE X (.List es pos) (dLst tr) :=
  pe_imp (pe_lst h) fun σ H R ⟨Γ, M, Q, ee, mm, h, f⟩ => ⟨Γ, M, _, ee, mm, h, fun ds M1 vs H1 q1 t1 m1 r1 =>
    ⟨by rw [r1.len]; exact q1.1, fun p hp => f (.obj p) _ (.ref p) _ (q1.2 p (m1.free hp)) (t1.tr (TS.new hp)) (m1.addL hp r1) (.obj p)⟩⟩
end
end L3

/-! L3: dicts whose keys are stands; operators by data. -/
namespace L3
open PySem PySem.Spec PyProof.Rows L2

/-! ### dicts by stands -/
section
variable {X : Cx} {pins : List (Addr × Obj)} {σ : L2.St} {s : Shared} {H : Hp}
/-- a value's place in a nested key -/
theorem nk_int {i : Int} {v : V} {u : Value} (t : T X.K H v (.int i)) (r : RelV v u) {h : Heap} : NestedIs h (.num i) u := by
  rw [t.int_inv] at r
  obtain ⟨tk, rfl⟩ := r
  exact .int i tk
theorem nk_bl {b : Bool} {v : V} {u : Value} (t : T X.K H v (.bl b)) (r : RelV v u) {h : Heap} : NestedIs h (.num (bI b)) u := by
  rw [t.bl_inv] at r
  cases r
  exact .bool rfl
theorem nk_tup (I : Inv X pins σ H s) {v : V} {u : Value} {ds : List D} {ks : List NestedKey} (t : T X.K H v (.tup ds)) (r : RelV v u)
    (h : ∀ xs us, Ts X.K H xs ds → Vals xs us → NestedAll s.heap ks us) : NestedIs s.heap (.tup ks) u := by
  obtain ⟨a, xs, rfl, h1, h2⟩ := t.tup_inv
  cases r
  obtain ⟨its, rv, ⟨o, e, c, n, d⟩, _⟩ := I.tuple h1.sq
  exact .tup e c d (h xs _ h2 (by simpa using rv))
theorem key_is (I : Inv X pins σ H s) {b : Addr} {st : Stand} (t : T X.K H (.ref b) (standD st)) : (nestedKind X.prog X.w).is s.heap (keyS st) b := by
  refine ⟨nk_tup I t rfl fun xs us h r => ?_, by simp [keyS, NestedKey.depth, NestedKey.depthAll]⟩
  match xs, us, h, r with
  | _, _, .cons a1 (.cons a2 (.cons a3 (.cons a4 (.cons a5 .nil)))), .cons r1 (.cons r2 (.cons r3 (.cons r4 (.cons r5 .nil)))) =>
    refine .cons (nk_int a1 r1) (.cons (nk_bl a2 r2) (.cons (nk_bl a3 r3) (.cons (nk_int a4 r4) (.cons (nk_tup I a5 r5 fun ys ws h2 r2 => ?_) .nil))))
    match ys, ws, h2, r2 with
    | _, _, .cons b1 (.cons b2 .nil), .cons q1 (.cons q2 .nil) => exact .cons (nk_int b1 q1) (.cons (nk_int b2 q2) .nil)

def lk (kvs : List (Stand × D)) (st : Stand) : Option D := (kvs.find? fun x => decide (x.1 = st)).map (·.2)
theorem pairedKD_at {kvs : List (Stand × D)} {xs : List (NestedKey × Addr × Value)} (h : Paired (KD X.K H) kvs xs) (st : Stand) :
    (lk kvs st = none ∧ atKey xs (keyS st) = none) ∨ ∃ d p v, lk kvs st = some d ∧ atKey xs (keyS st) = some p ∧ RelV v p.2 ∧ T X.K H v d := by
  induction h with
  | nil => exact Or.inl ⟨rfl, rfl⟩
  | @cons kv x l1 l2 hk _ ih =>
    obtain ⟨e1, e2, v, e3, e4⟩ := hk
    by_cases q : kv.1 = st
    · refine .inr ⟨kv.2, x.2, v, ?_, ?_, e3, e4⟩
      · simp [lk, q]
      · simp [atKey, e1, q]
    · have q' : ¬ x.1 = keyS st := fun z => q (keyS_inj (e1.symm.trans z))
      have a1 : lk (kv :: l1) st = lk l1 st := by simp [lk, q]
      have a2 : atKey (x :: l2) (keyS st) = atKey l2 (keyS st) := by simp [atKey, q']
      rw [a1, a2]
      exact ih
theorem ext_at (I : Inv X pins σ H s) {a : Addr} {o : Obj} (h : H a = some (exo a o)) : s.heap.get? a = some o := (I.hok a _ h).1
theorem kdAll {kvs : List (Stand × D)} {xs : List (NestedKey × Addr × Value)} (I : Inv X pins σ H s) (h : Paired (KD X.K H) kvs xs) : ∀ x ∈ xs, (nestedKind X.prog X.w).is s.heap x.1 x.2.1 := by
  induction h with
  | nil => exact fun x hx => nomatch hx
  | @cons kv x l1 l2 hk _ ih =>
    intro y hy
    obtain e | hy := List.mem_cons.mp hy
    · subst e
      rw [hk.1]
      exact key_is I hk.2.1
    · exact ih y hy
theorem dobj_of (I : Inv X pins σ H s) {a : Addr} {o : Obj} {kvs : List (Stand × D)} {xs : List (NestedKey × Addr × Value)} (h : H a = some (exo a o)) (hd : DObj X.prog X.w a o xs) (hk : Paired (KD X.K H) kvs xs) :
    s.heap.DictOfH (nestedKind X.prog X.w) a xs := by
  obtain ⟨_, _, ex, es, ep, h1, h2, h3⟩ := hd
  exact ⟨o, es, ep, ext_at I h, ex, h1, h2, kdAll I hk, h3⟩
theorem room_in1 {A : Around} {P : Program} {w : World} (hu : A.units + 64 < cLine) : (nestedKind P w).room A.in1 := by
  show A.units + 1 + 8 < cLine
  omega
theorem exo_ok {P : Program} {w : World} {H' : Hp} {h : Heap} {a : Addr} {o : Obj} (e : h.get? a = some o) : ObjOk P w H' h a (exo a o) := ⟨e, ⟨o, e⟩, fun h1 h2 q k => k o q⟩

/-- the reading of d[k], in it, by stands -/
def rDIx : DR2 := fun x y M Q => match x with
  | .obj a => match M a with
    | some (.dct o kvs) => ask (toStand y) fun st => ask (lk kvs st) fun d => Q d M
    | _ => False
  | _ => False
theorem T.st_inv {K : PySem.W.Frag} {v : V} {st : Stand} (t : T K H v (standD st)) : ∃ b, v = .ref b := let ⟨a, _, e, _⟩ := t.tup_inv; ⟨a, e⟩
end
section
variable {X : Cx}
theorem ix_dct (hu : X.A.units + 64 < cLine) : IxR X (l2 X.prog X.w X.K rDIx) := by
  intro value slice pins s σ H x y v u R I rx ry h hs
  obtain ⟨dx, dy, M, Q, tx, ty, mm, h, f⟩ := h
  unfold rDIx at h
  cases dx with
  | obj a =>
    simp only at h
    split at h
    · rename_i o kvs ho
      obtain ⟨st, e1, h⟩ := ask_ok h
      obtain ⟨d, e2, h⟩ := ask_ok h
      rw [of_toStand e1] at ty
      obtain ⟨b, rfl⟩ := ty.st_inv
      cases ry
      rw [tx.obj_inv] at rx
      cases rx
      obtain ⟨xs, h1, h2, h3⟩ := mm a _ ho
      have hD := dobj_of I h1 h2 h3
      rcases pairedKD_at h3 st with ⟨z, _⟩ | ⟨d', p, w', z1, z2, z3, z4⟩
      · rw [z] at e2; cases e2
      · rw [z1] at e2
        cases e2
        unfold subscriptTail
        refine wpAny_bind ?_
        rw [getitemInPython_of_ne hD.typeIs.not_modules]
        refine wpAny_bind (wpAny_specialOf hD.typeIs PySem.F.slot_dict_getitem.lookup ?_)
        have fin : wpAny (model X.prog X.w) X.A (subscripted slice false (.ref a) (.ref b)) (fun r s₃ => wpAny (model X.prog X.w) X.A (letTemporaryGo value (.ref a) r >>= fun _ => pure r) (EP X pins σ R) X.xe s₃) X.xe s := by
          rw [hs]
          refine wpAny_operating ?_
          refine wpAny_getItem_heap (room_in1 hu) (key_is I ty) hD z2 ?_
          exact wpAny_bind (wpAny_letTemporaryGo (wpAny_pure ⟨w', H, I.tok _, z3, f d M w' H h TS.rfl' mm z4⟩))
        first | exact wpAny_pure (wpAny_bind fin) | exact wpAny_bind (wpAny_pure (wpAny_bind fin)) | exact wpAny_bind fin
    · exact h.elim
  | _ => exact h.elim
/-- k in d -/
def rDIn (neg : Bool) : DR2 := fun x y M Q => match y with
  | .obj a => match M a with
    | some (.dct o kvs) => ask (toStand x) fun st => Q (.bl (if neg = true then !(lk kvs st).isSome else (lk kvs st).isSome)) M
    | _ => False
  | _ => False
theorem at_some {K : PySem.W.Frag} {H : Hp} {kvs : List (Stand × D)} {xs : List (NestedKey × Addr × Value)} {X : Cx} (h : Paired (KD X.K H) kvs xs) (st : Stand) : (atKey xs (keyS st)).isSome = (lk kvs st).isSome := by
  rcases pairedKD_at h st with ⟨z, z'⟩ | ⟨d', p, w', z1, z2, z3, z4⟩
  · rw [z, z']; rfl
  · rw [z1, z2]; rfl
theorem op_inD1 (hu : X.A.units + 64 < cLine) : DOp X (compareOp .In) (rDIn false) := by
  intro pins s σ H x y v u R I rx ry h
  obtain ⟨dx, dy, M, Q, tx, ty, mm, h, f⟩ := h
  unfold rDIn at h
  cases dy with
  | obj a =>
    simp only at h
    split at h
    · rename_i o kvs ho
      obtain ⟨st, e1, h⟩ := ask_ok h
      rw [of_toStand e1] at tx
      obtain ⟨b, rfl⟩ := tx.st_inv
      cases rx
      rw [ty.obj_inv] at ry
      cases ry
      obtain ⟨xs, h1, h2, h3⟩ := mm a _ ho
      refine wpAny_in_heap (room_in1 hu) (key_is I tx) h2.2.1 (dobj_of I h1 h2 h3) ?_
      rw [at_some (K := X.K) h3 st]
      exact ⟨.bl _, H, I.tok _, rfl, f _ M _ H h TS.rfl' mm (.bl _)⟩
    · exact h.elim
  | _ => exact h.elim
theorem op_ninD1 (hu : X.A.units + 64 < cLine) : DOp X (compareOp .NotIn) (rDIn true) := by
  intro pins s σ H x y v u R I rx ry h
  obtain ⟨dx, dy, M, Q, tx, ty, mm, h, f⟩ := h
  unfold rDIn at h
  cases dy with
  | obj a =>
    simp only at h
    split at h
    · rename_i o kvs ho
      obtain ⟨st, e1, h⟩ := ask_ok h
      rw [of_toStand e1] at tx
      obtain ⟨b, rfl⟩ := tx.st_inv
      cases rx
      rw [ty.obj_inv] at ry
      cases ry
      obtain ⟨xs, h1, h2, h3⟩ := mm a _ ho
      refine wpAny_notIn_heap (room_in1 hu) (key_is I tx) h2.2.1 (dobj_of I h1 h2 h3) ?_
      rw [at_some (K := X.K) h3 st]
      exact ⟨.bl _, H, I.tok _, rfl, f _ M _ H h TS.rfl' mm (.bl _)⟩
    · exact h.elim
  | _ => exact h.elim

/-! ### a store by data -/
theorem ixN_nat {n m : Nat} (h : n < m) : ixN m (.ofNat n) = some n := by
  show ixN m (n : Int) = some n
  unfold ixN
  rw [if_pos (Int.natCast_nonneg n), if_pos (Int.ofNat_lt.mpr h)]
  rfl
abbrev DSR := D → D → D → Mm → (Mm → Prop) → Prop
def l3 (P : Program) (w : World) (K : PySem.W.Frag) (r : DSR) : TSet := fun o i v H R => ∃ dO dI dV M Q, T K H o dO ∧ T K H i dI ∧ T K H v dV ∧ MOk P w K M H ∧ r dO dI dV M Q ∧ ∀ M' H', Q M' → TS H H' → MOk P w K M' H' → R H'
/-- d[k] = v, k new; xs[i] = v -/
def rSet : DSR := fun o i v M Q => match o with
  | .obj a => match M a with
    | some (.dct ob kvs) => ask (toStand i) fun st => lk kvs st = none ∧ kvs.length < sizeLine ∧ ∀ ob', Q (mset M a (.dct ob' (kvs ++ [(st, v)])))
    | some (.lst ds) => match i with
      | .int (.ofNat n) => n < ds.length ∧ Q (mset M a (.lst (ds.set n v)))
      | _ => False
    | _ => False
  | _ => False
theorem set_any (hu : X.A.units + 64 < cLine) : PSet X (l3 X.prog X.w X.K rSet) := by
  intro pins s σ H o i v ov iv u R I ro ri rv h
  obtain ⟨dO, dI, dV, M, Q, tO, tI, tV, mm, h, f⟩ := h
  unfold rSet at h
  cases dO with
  | obj a =>
    simp only at h
    rw [tO.obj_inv] at ro
    cases ro
    split at h
    · rename_i ob kvs ho
      obtain ⟨st, e1, h0, hl, h⟩ := ask_ok h
      rw [of_toStand e1] at tI
      obtain ⟨b, rfl⟩ := tI.st_inv
      cases ri
      obtain ⟨xs, h1, h2, h3⟩ := mm a _ ho
      have hn : atKey xs (keyS st) = none := by
        rcases pairedKD_at h3 st with ⟨_, z⟩ | ⟨d', p, w', z1, z2, z3, z4⟩
        · exact z
        · rw [z1] at h0; cases h0
      have e2 : storedH xs (keyS st) b u = xs ++ [(keyS st, b, u)] := by
        unfold storedH
        rw [hn]
        rfl
      have hlen : xs.length = kvs.length := (Paired.length h3).symm
      refine wpAny_setItem_heap (hsz := h2.1) (room_in1 hu) (key_is I tI) (dobj_of I h1 h2 h3) fun h' dd hs => ?_
      rw [e2] at dd
      obtain ⟨o', es, ep, g1, g2, g3, g4, _, g5⟩ := dd
      have tso : TS H (upd H a (exo a o')) := TS.over h1 (exo_sf (by obtain ⟨_, _, _, es, ep, hd, _⟩ := h2; exact ⟨es, ep, hd⟩))
      refine ⟨upd H a (exo a o'), d_write I (by rw [h1]; trivial) hs ⟨o', g1⟩ (exo_ok g1), f _ _ (h o') tso (mm.set ho ⟨xs ++ [(keyS st, b, u)], upd_same, ⟨?_, h2.2.1, g2, es, ep, g3, g4, g5⟩, ?_⟩)⟩
      · rw [List.length_append, List.length_singleton, hlen]
        omega
      · exact Paired.snoc (Paired.mapP h3 fun _ _ z => KD.keep tso z) ⟨rfl, tI.keep tso, v, rv, tV.keep tso⟩
    · rename_i ds ho
      split at h
      · rename_i n
        obtain ⟨xs, h1, h2⟩ := mm a _ ho
        rw [tI.int_inv] at ri
        have hlt : n < xs.length := by rw [h2.len]; exact h.1
        refine set_list pins s σ H (.ref a) (.int (.ofNat n)) v _ iv u R I rfl ri rv ⟨a, xs, .ofNat n, n, rfl, rfl, h1, ?_, ?_⟩
        · exact ixN_nat hlt
        · exact f _ _ h.2 (mm.tso ho) (mm.setL ho (h2.setAt n tV))
      · exact h.elim
    · exact h.elim
  | _ => exact h.elim

/-! ### + -/
def rAddD : DR2 := fun x y M Q => match x, y with
  | .int i, .int j => Q (.int (i + j)) M
  | .tup xs, .tup ys => xs.length + ys.length ≤ sizeLine ∧ Q (.tup (xs ++ ys)) M
  | .obj a, .obj b => match M a, M b with
    | some (.lst xs), some (.lst ys) => xs.length + ys.length ≤ sizeLine ∧ ∀ p, M p = none → Q (.obj p) (mset M p (.lst (xs ++ ys)))
    | _, _ => False
  | .obj a, .ls ns => match M a with
    | some (.lst xs) => xs.length + ns.length ≤ sizeLine ∧ ∀ p, M p = none → Q (.obj p) (mset M p (.lst (xs ++ ns.map D.int)))
    | _ => False
  | _, _ => False
theorem ls_inv {K : PySem.W.Frag} {H : Hp} {v : V} {ns : List Int} (h : T K H v (.ls ns)) : ∃ a, v = .ref a ∧ Fz K H a (ns.map V.int) := by cases h with | ls h => exact ⟨_, rfl, h⟩
theorem ts_ints {K : PySem.W.Frag} {H : Hp} : ∀ ns : List Int, Ts K H (ns.map V.int) (ns.map D.int)
  | [] => .nil
  | n :: ns => .cons (.int n) (ts_ints ns)
/-- lists of any kind -/
def rCatL (K : PySem.W.Frag) : R2 := fun x y H Q => ∃ l b xs zs, x = .ref l ∧ y = .ref b ∧ SqL K H l xs ∧ SqL K H b zs ∧ xs.length + zs.length ≤ sizeLine ∧ ∀ p, H p = none → Q (.ref p) (upd H p (.lst (xs ++ zs)))
theorem op_catL : OpR X (binaryOp .Add) (rCatL X.K) := by
  intro pins s σ H x y v u Q I rx ry ⟨l, b, xs, zs, e1, e2, hl, hb, hz, q⟩
  subst e1 e2
  cases rx
  cases ry
  obtain ⟨us, r1, p1, _⟩ := I.list hl
  rcases I.list hb with ⟨ws, r2, p2, _⟩
  obtain ⟨⟨c1, d1, a1, s1⟩, o1, h1, n1, z1⟩ := p1.isList
  obtain ⟨⟨c2, d2, a2, s2⟩, o2, h2, n2, z2⟩ := p2.isList
  simp only at h1 z1 h2 z2
  subst h1 z1 h2 z2
  have hsz : us.length + ws.length ≤ sizeLine := by rw [← r1.length, ← r2.length]; exact hz
  refine concat_meets ⟨_, o1, rfl⟩ ⟨_, o2, rfl⟩ noFill_list_add seq_list_add PySem.F.slot_list_add PySem.F.entry_list_add (PySem.F.args_list_add_2 _ _) (PyProof.Rows.list_addW l b us.toArray ws.toArray n1 n2 d1 d2 s1 s2 (by simpa using hsz)) ⟨o1, o2, ?_⟩
  have ea : us.toArray ++ ws.toArray = (us ++ ws).toArray := by simp
  rw [ea]
  exact ⟨.ref _, _, I.lnew (t' := s.toks) (r1.append r2) (by rw [List.length_append]; omega), rfl, q _ I.fresh⟩
theorem op_addD : DOp X (binaryOp .Add) rAddD := by
  refine op_imp (op_add.or (op_catA.or (op_cat.or op_catL))) fun x y H R h => ?_
  obtain ⟨dx, dy, M, Q, tx, ty, mm, h, f⟩ := h
  unfold rAddD at h
  split at h
  · exact .inl ⟨_, _, tx.int_inv, ty.int_inv, f _ M _ H h TS.rfl' mm (.int _)⟩
  · rename_i xs ys
    obtain ⟨a, us, rfl, h1, h2⟩ := tx.tup_inv
    obtain ⟨b, ws, rfl, h3, h4⟩ := ty.tup_inv
    refine .inr (.inl ⟨a, b, us, ws, rfl, rfl, h1.sq, h3.sq, by rw [h2.len, h4.len]; exact h.1, fun e => ?_, fun _ e => ?_, fun _ _ p hp => ?_⟩)
    · subst e
      cases h2
      exact f _ M _ H h.2 TS.rfl' mm ty
    · subst e
      cases h4
      rw [List.append_nil] at h
      exact f _ M _ H h.2 TS.rfl' mm tx
    · exact f _ M _ _ h.2 (TS.new hp) (mm.new hp) (.tup (.inl upd_same) ((h2.app h4).keep (TS.new hp)))
  · split at h
    · rename_i a b _ _ xs ys e1 e2
      obtain ⟨us, h1, h2⟩ := mm.lst e1
      obtain ⟨ws, h3, h4⟩ := mm.lst e2
      refine .inr (.inr (.inl ⟨a, b, us, ws, tx.obj_inv, ty.obj_inv, h1, h3, by rw [h2.len, h4.len]; exact h.1, fun p hp => ?_⟩))
      exact f _ _ _ _ (h.2 p (mm.free hp)) (TS.new hp) (mm.addL hp (h2.app h4)) (.obj p)
    · exact h.elim
  · split at h
    · rename_i a ns _ xs e1
      obtain ⟨us, h1, h2⟩ := mm.lst e1
      obtain ⟨b, rfl, h3⟩ := ls_inv ty
      refine .inr (.inr (.inr ⟨a, b, us, ns.map V.int, tx.obj_inv, rfl, .inl (.inl h1), h3.sq, by rw [h2.len, List.length_map]; exact h.1, fun p hp => ?_⟩))
      exact f _ _ _ _ (h.2 p (mm.free hp)) (TS.new hp) (mm.addL hp (h2.app (ts_ints ns))) (.obj p)
    · exact h.elim
  · exact h.elim
/-- ints -/
def rInt (C : Int → Int → Prop) (g : Int → Int → D) : DR2 := fun x y M Q => match x, y with
  | .int i, .int j => C i j ∧ Q (g i j) M
  | _, _ => False
theorem op_intD {f : Value → Value → Sem Value} {C : Int → Int → Prop} {g : Int → Int → V} {g' : Int → Int → D} (ho : OpR X f (rI C g)) (hg : ∀ i j H, T X.K H (g i j) (g' i j)) : DOp X f (rInt C g') :=
  op_imp ho fun x y H R ⟨dx, dy, M, Q, tx, ty, mm, h, f⟩ => by
    unfold rInt at h
    split at h
    · exact ⟨_, _, tx.int_inv, ty.int_inv, h.1, f _ M _ H h.2 TS.rfl' mm (hg _ _ _)⟩
    · exact h.elim
theorem op_intD0 {f : Value → Value → Sem Value} {g : Int → Int → V} {g' : Int → Int → D} (ho : OpR X f (rI0 g)) (hg : ∀ i j H, T X.K H (g i j) (g' i j)) : DOp X f (rInt (fun _ _ => True) g') :=
  op_imp ho fun x y H R ⟨dx, dy, M, Q, tx, ty, mm, h, f⟩ => by
    unfold rInt at h
    split at h
    · exact ⟨_, _, tx.int_inv, ty.int_inv, f _ M _ H h.2 TS.rfl' mm (hg _ _ _)⟩
    · exact h.elim
theorem op_subD : DOp X (binaryOp .Sub) (rInt (fun _ _ => True) fun i j => .int (i - j)) := op_intD0 op_sub fun _ _ _ => .int _
theorem op_mulD : DOp X (binaryOp .Mult) (rInt CMul fun i j => .int (i * j)) := op_intD op_mul fun _ _ _ => .int _
theorem op_fdivD : DOp X (binaryOp .FloorDiv) (rInt CDiv fun i j => .int (i / j)) := op_intD op_fdiv fun _ _ _ => .int _
theorem op_modD : DOp X (binaryOp .Mod) (rInt (fun _ j => 0 < j) fun i j => .int (i % j)) := op_intD op_mod fun _ _ _ => .int _
theorem op_powD : DOp X (binaryOp .Pow) (rInt CPow fun i j => .int (i ^ j.toNat)) := op_intD op_pow fun _ _ _ => .int _
theorem op_ltD : DOp X (compareOp .Lt) (rInt (fun _ _ => True) fun i j => .bl (decide (i < j))) := op_intD0 op_lt fun _ _ _ => .bl _
theorem op_leD : DOp X (compareOp .LtE) (rInt (fun _ _ => True) fun i j => .bl (decide (i ≤ j))) := op_intD0 op_le fun _ _ _ => .bl _
theorem op_gtD : DOp X (compareOp .Gt) (rInt (fun _ _ => True) fun i j => .bl (decide (j < i))) := op_intD0 op_gt fun _ _ _ => .bl _
theorem op_geD : DOp X (compareOp .GtE) (rInt (fun _ _ => True) fun i j => .bl (decide (j ≤ i))) := op_intD0 op_ge fun _ _ _ => .bl _

/-! ### == and != -/
mutual
def pyT : D → Option PyData
  | .non => some .none
  | .bl b => some (.bool b)
  | .int i => some (.int i)
  | .str x => some (.str x)
  | .tup ds => (pyTs ds).map .tuple
  | .obj _ => none
  | .ty _ => none
  | .ls _ => none
def pyTs : List D → Option (List PyData)
  | [] => some []
  | d :: ds => match pyT d, pyTs ds with
    | some a, some b => some (a :: b)
    | _, _ => none
end
/-- a list of data too -/
def pyD (M : Mm) : D → Option PyData
  | .obj a => match M a with
    | some (.lst ds) => (pyTs ds).map .list
    | _ => none
  | d => pyT d
mutual
theorem dp_T {K : PySem.W.Frag} {H : Hp} : ∀ (d : D) (v : V) (p : PyData), T K H v d → pyT d = some p → Dp K H v p
  | .non, _, p, t, e => by rw [t.non_inv]; cases e; exact .non
  | .bl b, _, p, t, e => by rw [t.bl_inv]; cases e; exact .bl b
  | .int b, _, p, t, e => by rw [t.int_inv]; cases e; exact .int b
  | .str b, _, p, t, e => by rw [t.str_inv]; cases e; exact .str b
  | .tup ds, _, p, t, e => by
    obtain ⟨a, xs, rfl, h1, h2⟩ := t.tup_inv
    rw [pyT] at e
    obtain ⟨ps, e1, rfl⟩ := Option.map_eq_some_iff.mp e
    exact .tup h1.sq (dp_Ts ds xs ps h2 e1)
  | .obj _, _, p, t, e => by cases e
  | .ty _, _, p, t, e => by cases e
  | .ls _, _, p, t, e => by cases e
theorem dp_Ts {K : PySem.W.Frag} {H : Hp} : ∀ (ds : List D) (vs : List V) (ps : List PyData), Ts K H vs ds → pyTs ds = some ps → DpAll K H vs ps
  | [], _, ps, t, e => by cases t; cases e; exact .nil
  | d :: ds, _, ps, t, e => by
    cases t with
    | cons a b =>
      rw [pyTs] at e
      split at e
      · rename_i p q h1 h2
        cases e
        exact .cons (dp_T d _ _ a h1) (dp_Ts ds _ _ b h2)
      · cases e
end
theorem dp_D {P : Program} {w : World} {K : PySem.W.Frag} {H : Hp} {M : Mm} (mm : MOk P w K M H) {d : D} {v : V} {p : PyData} (t : T K H v d) (e : pyD M d = some p) : Dp K H v p := by
  cases d with
  | obj a =>
    rw [t.obj_inv]
    unfold pyD at e
    simp only at e
    split at e
    · rename_i ds ho
      obtain ⟨xs, h1, h2⟩ := mm.lst ho
      obtain ⟨ps, e1, rfl⟩ := Option.map_eq_some_iff.mp e
      exact .lst (.of h1) (dp_Ts ds xs ps h2 e1)
    · cases e
  | non => exact dp_T _ _ _ t e
  | bl _ => exact dp_T _ _ _ t e
  | int _ => exact dp_T _ _ _ t e
  | str _ => exact dp_T _ _ _ t e
  | tup _ => exact dp_T _ _ _ t e
  | ty _ => exact dp_T _ _ _ t e
  | ls _ => exact dp_T _ _ _ t e
/-- two flat things of one kind, or data at any depth -/
def rEqD (neg : Bool) : DR2 := fun x y M Q => match x, y with
  | .int i, .int j => Q (.bl (if neg = true then !decide (i = j) else decide (i = j))) M
  | .str i, .str j => Q (.bl (if neg = true then !decide (i = j) else decide (i = j))) M
  | .bl i, .bl j => Q (.bl (if neg = true then !decide (i = j) else decide (i = j))) M
  | x, y => ask (pyD M x) fun d => ask (pyD M y) fun e => SeqAt.shaped d = true ∧ SeqAt.shaped e = true ∧ Q (.bl (if neg = true then !PyData.eqv d e else PyData.eqv d e)) M
theorem dec_inj {α β : Type} [DecidableEq α] [DecidableEq β] {f : α → β} (hf : ∀ a b, f a = f b → a = b) (a b : α) : decide (f a = f b) = decide (a = b) := by
  by_cases h : a = b
  · subst h; simp
  · rw [decide_eq_false h, decide_eq_false fun z => h (hf _ _ z)]
theorem op_eqDD (hu : X.A.units + 64 < cLine) : DOp X (compareOp .Eq) (rEqD false) := by
  refine op_imp (op_eq.or (op_eqD hu)) fun x y H R ⟨dx, dy, M, Q, tx, ty, mm, h, f⟩ => ?_
  unfold rEqD at h
  split at h
  · rw [tx.int_inv, ty.int_inv]
    refine .inl ⟨rfl, f _ M _ H h TS.rfl' mm ?_⟩
    rw [dec_inj (f := V.int) (fun _ _ z => V.int.inj z)]
    exact .bl _
  · rw [tx.str_inv, ty.str_inv]
    refine .inl ⟨rfl, f _ M _ H h TS.rfl' mm ?_⟩
    rw [dec_inj (f := V.str) (fun _ _ z => V.str.inj z)]
    exact .bl _
  · rw [tx.bl_inv, ty.bl_inv]
    refine .inl ⟨rfl, f _ M _ H h TS.rfl' mm ?_⟩
    rw [dec_inj (f := V.bl) (fun _ _ z => V.bl.inj z)]
    exact .bl _
  · obtain ⟨d, e1, h⟩ := ask_ok h
    obtain ⟨e, e2, h⟩ := ask_ok h
    exact .inr ⟨d, e, dp_D mm tx e1, dp_D mm ty e2, h.1, h.2.1, f _ M _ H h.2.2 TS.rfl' mm (.bl _)⟩
theorem op_neDD (hu : X.A.units + 64 < cLine) : DOp X (compareOp .NotEq) (rEqD true) := by
  refine op_imp (op_ne.or (op_neD hu)) fun x y H R ⟨dx, dy, M, Q, tx, ty, mm, h, f⟩ => ?_
  unfold rEqD at h
  split at h
  · rw [tx.int_inv, ty.int_inv]
    refine .inl ⟨rfl, f _ M _ H h TS.rfl' mm ?_⟩
    rw [dec_inj (f := V.int) (fun _ _ z => V.int.inj z)]
    exact .bl _
  · rw [tx.str_inv, ty.str_inv]
    refine .inl ⟨rfl, f _ M _ H h TS.rfl' mm ?_⟩
    rw [dec_inj (f := V.str) (fun _ _ z => V.str.inj z)]
    exact .bl _
  · rw [tx.bl_inv, ty.bl_inv]
    refine .inl ⟨rfl, f _ M _ H h TS.rfl' mm ?_⟩
    rw [dec_inj (f := V.bl) (fun _ _ z => V.bl.inj z)]
    exact .bl _
  · obtain ⟨d, e1, h⟩ := ask_ok h
    obtain ⟨e, e2, h⟩ := ask_ok h
    exact .inr ⟨d, e, dp_D mm tx e1, dp_D mm ty e2, h.1, h.2.1, f _ M _ H h.2.2 TS.rfl' mm (.bl _)⟩
/-- is None -/
def isN : D → Bool
  | .non => true
  | _ => false
theorem isN_of {K : PySem.W.Frag} {H : Hp} {v : V} {d : D} (t : T K H v d) : decide (v = .non) = isN d := by
  cases t <;> rfl
def rIsN (neg : Bool) : DR2 := fun x y M Q => match y with
  | .non => Q (.bl (if neg = true then !isN x else isN x)) M
  | _ => False
theorem op_isD : DOp X (compareOp .Is) (rIsN false) := by
  refine op_imp op_isN fun x y H R ⟨dx, dy, M, Q, tx, ty, mm, h, f⟩ => ?_
  unfold rIsN at h
  split at h
  · refine ⟨ty.non_inv, f _ M _ H h TS.rfl' mm ?_⟩
    rw [isN_of tx]
    exact .bl _
  · exact h.elim
theorem op_notD : DOp X (compareOp .IsNot) (rIsN true) := by
  refine op_imp op_notN fun x y H R ⟨dx, dy, M, Q, tx, ty, mm, h, f⟩ => ?_
  unfold rIsN at h
  split at h
  · refine ⟨ty.non_inv, f _ M _ H h TS.rfl' mm ?_⟩
    rw [isN_of tx]
    exact .bl _
  · exact h.elim

/-! ### in -/
def toV : D → Option V
  | .non => some .non
  | .bl b => some (.bl b)
  | .int i => some (.int i)
  | .str x => some (.str x)
  | _ => none
def toVs : List D → Option (List V)
  | [] => some []
  | d :: ds => match toV d, toVs ds with
    | some a, some b => some (a :: b)
    | _, _ => none
theorem toV_T {K : PySem.W.Frag} {H : Hp} {d : D} {v x : V} (t : T K H v d) (e : toV d = some x) : v = x ∧ flatV x = true := by
  cases t <;> first | (cases e; exact ⟨rfl, rfl⟩) | cases e
theorem toVs_T {K : PySem.W.Frag} {H : Hp} : ∀ {ds : List D} {vs xs : List V}, Ts K H vs ds → toVs ds = some xs → vs = xs ∧ xs.all flatV = true
  | [], _, _, t, e => by cases t; cases e; exact ⟨rfl, rfl⟩
  | d :: ds, _, _, t, e => by
    cases t with
    | cons a b =>
      rw [toVs] at e
      split at e
      · rename_i p q h1 h2
        cases e
        obtain ⟨e1, f1⟩ := toV_T a h1
        obtain ⟨e2, f2⟩ := toVs_T b h2
        exact ⟨by rw [e1, e2], by rw [List.all_cons, f1, f2]; rfl⟩
      · cases e
def rInD (neg : Bool) : DR2 := fun x y M Q => match y with
  | .tup ds => ask (toV x) fun v => ask (toVs ds) fun vs => Q (.bl (if neg = true then !inV v vs else inV v vs)) M
  | .obj a => match M a with
    | some (.lst ds) => ask (toV x) fun v => ask (toVs ds) fun vs => Q (.bl (if neg = true then !inV v vs else inV v vs)) M
    | some (.dct o kvs) => ask (toStand x) fun st => Q (.bl (if neg = true then !(lk kvs st).isSome else (lk kvs st).isSome)) M
    | _ => False
  | _ => False
theorem l_inD {neg : Bool} {x y : V} {H : Hp} {R : VK} (h : l2 X.prog X.w X.K (rInD neg) x y H R) : L2.rIn X.K neg x y H R ∨ l2 X.prog X.w X.K (rDIn neg) x y H R := by
  obtain ⟨dx, dy, M, Q, tx, ty, mm, h, f⟩ := h
  unfold rInD at h
  split at h
  · obtain ⟨v, e1, h⟩ := ask_ok h
    obtain ⟨vs, e2, h⟩ := ask_ok h
    obtain ⟨a, xs, rfl, h1, h2⟩ := ty.tup_inv
    obtain ⟨rfl, f1⟩ := toV_T tx e1
    obtain ⟨rfl, f2⟩ := toVs_T h2 e2
    exact .inl ⟨a, xs, rfl, .inr h1.sq, f1, f2, f _ M _ H h TS.rfl' mm (.bl _)⟩
  · split at h
    · rename_i a _ ds ho
      obtain ⟨v, e1, h⟩ := ask_ok h
      obtain ⟨vs, e2, h⟩ := ask_ok h
      obtain ⟨xs, h1, h2⟩ := mm.lst ho
      obtain ⟨rfl, f1⟩ := toV_T tx e1
      obtain ⟨rfl, f2⟩ := toVs_T h2 e2
      exact .inl ⟨a, xs, ty.obj_inv, .inl (.of h1), f1, f2, f _ M _ H h TS.rfl' mm (.bl _)⟩
    · rename_i a _ o kvs ho
      refine .inr ⟨dx, .obj a, M, Q, tx, ty, mm, ?_, f⟩
      unfold rDIn
      simp only [ho]
      exact h
    · exact h.elim
  · exact h.elim
theorem op_inDD (hu : X.A.units + 64 < cLine) : DOp X (compareOp .In) (rInD false) := op_imp (op_in_seq.or (op_inD1 hu)) fun _ _ _ _ h => l_inD h
theorem op_ninDD (hu : X.A.units + 64 < cLine) : DOp X (compareOp .NotIn) (rInD true) := op_imp (op_notIn_seq.or (op_ninD1 hu)) fun _ _ _ _ h => l_inD h

/-! ### subscripts -/
def rIxD : DR2 := fun x y M Q => match x with
  | .tup ds => match y with
    | .int (.ofNat n) => ask ds[n]? fun d => Q d M
    | _ => False
  | .obj a => match M a with
    | some (.lst ds) => match y with
      | .int (.ofNat n) => ask ds[n]? fun d => Q d M
      | _ => False
    | some (.dct o kvs) => ask (toStand y) fun st => ask (lk kvs st) fun d => Q d M
    | _ => False
  | _ => False
theorem ix_any (hu : X.A.units + 64 < cLine) : IxR X (l2 X.prog X.w X.K rIxD) := by
  intro value slice pins s σ H x y v u R I rx ry h hs
  refine (ix_list.or (ix_tup.or (ix_dct hu))) value slice pins s σ H x y v u R I rx ry ?_ hs
  obtain ⟨dx, dy, M, Q, tx, ty, mm, h, f⟩ := h
  unfold rIxD at h
  cases dx with
  | tup ds =>
    simp only at h
    split at h
    · rename_i n
      obtain ⟨d, e1, h⟩ := ask_ok h
      obtain ⟨a, xs, rfl, h1, h2⟩ := tx.tup_inv
      obtain ⟨w, e2, r⟩ := h2.at e1
      exact .inr (.inl ⟨a, xs, _, w, rfl, ty.int_inv, h1.sq, atI_nat e2, f _ M _ H h TS.rfl' mm r⟩)
    · exact h.elim
  | obj a =>
    simp only at h
    split at h
    · rename_i ds ho
      split at h
      · rename_i n
        obtain ⟨d, e1, h⟩ := ask_ok h
        obtain ⟨xs, h1, h2⟩ := mm.lst ho
        obtain ⟨w, e2, r⟩ := h2.at e1
        exact .inl ⟨a, xs, _, w, tx.obj_inv, ty.int_inv, .of h1, atI_nat e2, f _ M _ H h TS.rfl' mm r⟩
      · exact h.elim
    · rename_i o kvs ho
      refine .inr (.inr ⟨.obj a, dy, M, Q, tx, ty, mm, ?_, f⟩)
      unfold rDIx
      simp only [ho]
      exact h
    · exact h.elim
  | _ => exact h.elim
variable {a b e : Expr} {pos : Pos} {ta tb : DTE}
theorem de_ix (hu : X.A.units + 64 < cLine) (ha : DE X a ta) (hb : DE X b tb) (hs : PlainIx b) : DE X (.Subscript a b pos) (dOp rIxD ta tb) :=
  pe_imp (pe_ix (ix_any hu) ha hb hs) fun _ _ _ h => l_op h
end
end L3

/-! L3: calls, methods, slices, statements, loops, comprehensions, defs, by data. -/
namespace L3
open PySem PySem.Spec PyProof.Rows L2

/-! ### built-in calls -/
section
variable {X : Cx} {e : Expr} {es : List Expr} {pos p : Pos} {x : Str} {tr : DTA} {r : DRA}
def dCall (r : DRA) (tr : DTA) : DTE := fun Γ M Q => tr Γ M fun ds M1 => r ds M1 Q
theorem l_call {P : Program} {w : World} {K : PySem.W.Frag} {σ : L2.St} {H : Hp} {R : VK} (h : lE P w K (dCall r tr) σ H R) : tCB (lR P w K r) (lA P w K tr) σ H R := by
  obtain ⟨Γ, M, Q, ee, mm, h, f⟩ := h
  exact ⟨Γ, M, _, ee, mm, h, fun ds M1 vs H1 q1 t1 m1 r1 => ⟨ds, M1, Q, r1, m1, q1, fun d M2 v H2 q2 t2 m2 r2 => f d M2 v H2 q2 (t1.tr t2) m2 r2⟩⟩
theorem de_callB {id : String} (hc : DCall X (.builtin id) r) (hg : Gl X x) (hm : X.mg x = none) (hv : bootBuiltins x = some (.builtin id)) (ha : DA X (e :: es) tr) (hn : x ≠ "__name__" := by decide) (hdb : (x == ("__debug__" : Str)) = false := by decide)
    (he : starEach (e :: es) X.env = (false, eval e X.env) :: starEach es X.env := by rfl) (hpl : (backTo pos (starEach es X.env)).any (·.1) = false := by rfl) : DE X (.Call (.Name x p) (e :: es) [] pos) (dCall r tr) :=
  pe_imp (pe_callB hc hg hm hv ha hn hdb he hpl) fun _ _ _ h => l_call h
theorem de_callTy {T : String} (hc : DCall X (.type T) r) (hg : Gl X x) (hm : X.mg x = none) (hv : bootBuiltins x = some (.type T)) (ha : DA X (e :: es) tr) (hn : x ≠ "__name__" := by decide) (hdb : (x == ("__debug__" : Str)) = false := by decide)
    (he : starEach (e :: es) X.env = (false, eval e X.env) :: starEach es X.env := by rfl) (hpl : (backTo pos (starEach es X.env)).any (·.1) = false := by rfl) : DE X (.Call (.Name x p) (e :: es) [] pos) (dCall r tr) :=
  pe_imp (pe_callTy hc hg hm hv ha hn hdb he hpl) fun _ _ _ h => l_call h
theorem Ts.one {K : PySem.W.Frag} {H : Hp} {vs : List V} {d : D} (t : Ts K H vs [d]) : ∃ v, vs = [v] ∧ T K H v d := by
  cases t with
  | cons a b => cases b; exact ⟨_, rfl, a⟩
theorem Ts.two {K : PySem.W.Frag} {H : Hp} {vs : List V} {d e : D} (t : Ts K H vs [d, e]) : ∃ v u, vs = [v, u] ∧ T K H v d ∧ T K H u e := by
  cases t with
  | cons a b =>
    obtain ⟨u, rfl, c⟩ := b.one
    exact ⟨_, u, rfl, a, c⟩
def rLen : DRA := fun ds M Q => match ds with
  | [.tup xs] => Q (.int xs.length) M
  | [.obj a] => match M a with
    | some (.lst xs) => Q (.int xs.length) M
    | _ => False
  | _ => False
theorem call_lenD : DCall X (.builtin "len") rLen := call_imp call_len_seq fun xs H R ⟨ds, M, Q, t, mm, h, f⟩ => by
  unfold rLen at h
  split at h
  · obtain ⟨v, rfl, tt⟩ := t.one
    obtain ⟨a, us, rfl, h1, h2⟩ := tt.tup_inv
    refine ⟨a, us, rfl, .inr h1.sq, ?_⟩
    rw [h2.len]
    exact f _ M _ H h TS.rfl' mm (.int _)
  · split at h
    · rename_i a _ xs ho
      obtain ⟨v, rfl, tt⟩ := t.one
      obtain ⟨us, h1, h2⟩ := mm.lst ho
      rw [tt.obj_inv]
      refine ⟨a, us, rfl, .inl (.of h1), ?_⟩
      rw [h2.len]
      exact f _ M _ H h TS.rfl' mm (.int _)
    · exact h.elim
  · exact h.elim
def rI2 (g : Int → Int → Int) : DRA := fun ds M Q => match ds with
  | [.int i, .int j] => Q (.int (g i j)) M
  | _ => False
theorem call_i2 {f : Value} {g g' : Int → Int → Int} (ho : CallR X f (fun xs H Q => ∃ i j, xs = [.int i, .int j] ∧ Q (.int (g i j)) H)) (hg : ∀ i j, g i j = g' i j) : DCall X f (rI2 g') := call_imp ho fun xs H R ⟨ds, M, Q, t, mm, h, fin⟩ => by
  unfold rI2 at h
  split at h
  · obtain ⟨v, u, rfl, t1, t2⟩ := t.two
    rw [t1.int_inv, t2.int_inv]
    refine ⟨_, _, rfl, ?_⟩
    rw [hg]
    exact fin _ M _ H h TS.rfl' mm (.int _)
  · exact h.elim
theorem call_maxD (hc : X.calm = true) : DCall X (.builtin "max") (rI2 max) := call_i2 (call_max2 hc) fun i j => by
  show (if j > i then j else i) = max i j
  split <;> omega
theorem call_minD (hc : X.calm = true) : DCall X (.builtin "min") (rI2 min) := call_i2 (call_min2 hc) fun i j => by
  show (if j < i then j else i) = min i j
  split <;> omega
def rToInt : DRA := fun ds M Q => match ds with
  | [.int i] => Q (.int i) M
  | [.bl b] => Q (.int (bI b)) M
  | _ => False
theorem call_intD : DCall X (.type "int") rToInt := call_imp call_int1 fun xs H R ⟨ds, M, Q, t, mm, h, f⟩ => by
  unfold rToInt at h
  split at h
  · obtain ⟨v, rfl, tt⟩ := t.one
    rw [tt.int_inv]
    exact .inl ⟨_, rfl, f _ M _ H h TS.rfl' mm (.int _)⟩
  · rename_i b
    obtain ⟨v, rfl, tt⟩ := t.one
    rw [tt.bl_inv]
    refine .inr ⟨_, rfl, ?_⟩
    exact f _ M (.int (bI b)) H h TS.rfl' mm (.int _)
  · exact h.elim
/-- a value's kind -/
def tyn (M : Mm) : D → Option String
  | .non => some "NoneType"
  | .bl _ => some "bool"
  | .int _ => some "int"
  | .str _ => some "str"
  | .tup _ => some "tuple"
  | .obj a => match M a with
    | some (MO.lst _) => some "list"
    | _ => none
  | .ty _ => none
  | .ls _ => none
theorem tyn_ok {P : Program} {w : World} {K : PySem.W.Frag} {H : Hp} {M : Mm} (mm : MOk P w K M H) {d : D} {v : V} {n : String} (t : T K H v d) (e : tyn M d = some n) : TyX K H v (.type n) := by
  cases t with
  | non => cases e; exact .base .non
  | bl b => cases e; exact .base (.bl b)
  | int b => cases e; exact .base (.int b)
  | str b => cases e; exact .base (.str b)
  | tup h1 h2 =>
    cases e
    rcases h1 with h1 | ⟨o, its, n, h1, h3, _⟩
    · exact .base (.tup h1)
    · exact .kTuple h1 h3
  | obj a =>
    unfold tyn at e
    simp only at e
    split at e
    · rename_i ds ho
      cases e
      obtain ⟨xs, h1, _⟩ := mm.lst ho
      exact .base (.lst h1)
    · cases e
  | ty n => cases e
  | ls _ => cases e
def rIsi : DRA := fun ds M Q => match ds with
  | [x, .ty n] => ask (tyn M x) fun a => ask (kitB a n) fun b => Q (.bl b) M
  | _ => False
theorem call_isiD : DCall X (.builtin "isinstance") rIsi := call_imp call_isi fun xs H R ⟨ds, M, Q, t, mm, h, f⟩ => by
  unfold rIsi at h
  split at h
  · obtain ⟨a, e1, h⟩ := ask_ok h
    obtain ⟨b, e2, h⟩ := ask_ok h
    obtain ⟨v, u, rfl, t1, t2⟩ := t.two
    have : ∀ {n : String} {u : V}, T X.K H u (.ty n) → u = .ty n := fun t => by cases t; rfl
    rw [this t2]
    exact ⟨v, .ty _, _, _, b, rfl, .ty _, tyn_ok mm t1 e1, kit_ty e2, f _ M _ H h TS.rfl' mm (.bl b)⟩
  · exact h.elim
theorem de_tyn {n : String} (hg : Gl X x) (hm : X.mg x = none) (hv : bootBuiltins x = some (.type n)) (hn : x ≠ "__name__" := by decide) (hd : (x == ("__debug__" : Str)) = false := by decide) : DE X (.Name x pos) (dC (.ty n)) :=
  de_c (pe_bltn (v := .ty n) hg hm hv rfl hn hd) fun _ => .ty n
def toBs : List D → Option (List Bool)
  | [] => some []
  | .bl b :: r => match toBs r with
    | some l => some (b :: l)
    | none => none
  | _ => none
theorem toBs_T {K : PySem.W.Frag} {H : Hp} : ∀ {ds : List D} {vs : List V} {bs : List Bool}, Ts K H vs ds → toBs ds = some bs → vs = bs.map V.bl
  | [], _, _, t, e => by cases t; cases e; rfl
  | .bl b :: r, _, _, t, e => by
    cases t with
    | cons a c =>
      rw [toBs] at e
      split at e
      · rename_i l h1
        cases e
        rw [a.bl_inv, toBs_T c h1]
        rfl
      · cases e
  | .non :: _, _, _, _, e => by simp [toBs] at e
  | .int _ :: _, _, _, _, e => by simp [toBs] at e
  | .str _ :: _, _, _, _, e => by simp [toBs] at e
  | .tup _ :: _, _, _, _, e => by simp [toBs] at e
  | .obj _ :: _, _, _, _, e => by simp [toBs] at e
  | .ty _ :: _, _, _, _, e => by simp [toBs] at e
def rAllD : DRA := fun ds M Q => match ds with
  | [.obj a] => match M a with
    | some (.lst xs) => ask (toBs xs) fun bs => Q (.bl (bs.all id)) M
    | _ => False
  | _ => False
theorem call_allD (hc : X.calm = true) : DCall X (.builtin "all") rAllD := call_imp (cr_all hc) fun xs H R ⟨ds, M, Q, t, mm, h, f⟩ => by
  unfold rAllD at h
  split at h
  · split at h
    · rename_i a _ xs ho
      obtain ⟨bs, e1, h⟩ := ask_ok h
      obtain ⟨v, rfl, tt⟩ := t.one
      obtain ⟨us, h1, h2⟩ := mm.lst ho
      rw [tt.obj_inv]
      refine ⟨a, bs, rfl, ?_, f _ M _ H h TS.rfl' mm (.bl _)⟩
      rw [← toBs_T h2 e1]
      exact .of h1
    · exact h.elim
  · exact h.elim
def toIs : List D → Option (List Int)
  | [] => some []
  | .int b :: r => match toIs r with
    | some l => some (b :: l)
    | none => none
  | _ => none
theorem toIs_T {K : PySem.W.Frag} {H : Hp} : ∀ {ds : List D} {vs : List V} {bs : List Int}, Ts K H vs ds → toIs ds = some bs → vs = bs.map V.int
  | [], _, _, t, e => by cases t; cases e; rfl
  | .int b :: r, _, _, t, e => by
    cases t with
    | cons a c =>
      rw [toIs] at e
      split at e
      · rename_i l h1
        cases e
        rw [a.int_inv, toIs_T c h1]
        rfl
      · cases e
  | .non :: _, _, _, _, e => by simp [toIs] at e
  | .bl _ :: _, _, _, _, e => by simp [toIs] at e
  | .str _ :: _, _, _, _, e => by simp [toIs] at e
  | .tup _ :: _, _, _, _, e => by simp [toIs] at e
  | .obj _ :: _, _, _, _, e => by simp [toIs] at e
  | .ty _ :: _, _, _, _, e => by simp [toIs] at e
theorem Ts_ints {K : PySem.W.Frag} {H : Hp} : ∀ ns : List Int, Ts K H (ns.map V.int) (ns.map D.int)
  | [] => .nil
  | n :: ns => .cons (.int n) (Ts_ints ns)
theorem Ts_strs {K : PySem.W.Frag} {H : Hp} : ∀ ns : List Str, Ts K H (ns.map V.str) (ns.map D.str)
  | [] => .nil
  | n :: ns => .cons (.str n) (Ts_strs ns)
def rSortI : DRA := fun ds M Q => match ds with
  | [.obj a] => match M a with
    | some (.lst xs) => ask (toIs xs) fun ns => ns.length < 64 ∧ ∀ ns' : List Int, ns'.Perm ns → ns'.Pairwise (· ≤ ·) → ∀ p, M p = none → Q (.obj p) (mset M p (.lst (ns'.map D.int)))
    | _ => False
  | _ => False
theorem call_sortI : DCall X (.builtin "sorted") rSortI := call_imp cr_sorted fun xs H R ⟨ds, M, Q, t, mm, h, f⟩ => by
  unfold rSortI at h
  split at h
  · split at h
    · rename_i a _ xs ho
      obtain ⟨ns, e1, h64, h⟩ := ask_ok h
      obtain ⟨v, rfl, tt⟩ := t.one
      obtain ⟨us, h1, h2⟩ := mm.lst ho
      rw [tt.obj_inv]
      refine ⟨a, ns, rfl, ?_, h64, fun ns' p pm pw hp => f _ _ _ _ (h ns' pm pw p (mm.free hp)) (TS.new hp) (mm.addL hp (Ts_ints ns')) (.obj p)⟩
      rw [← toIs_T h2 e1]
      exact .of h1
    · exact h.elim
  · exact h.elim
/-- tuple(list) -/
def rToTup : DRA := fun ds M Q => match ds with
  | [.obj a] => match M a with
    | some (.lst xs) => Q (.tup xs) M
    | _ => False
  | _ => False
theorem call_tupD : DCall X (.type "tuple") rToTup := call_imp call_tuple_of fun xs H R ⟨ds, M, Q, t, mm, h, f⟩ => by
  unfold rToTup at h
  split at h
  · split at h
    · rename_i a _ xs ho
      obtain ⟨v, rfl, tt⟩ := t.one
      obtain ⟨us, h1, h2⟩ := mm.lst ho
      rw [tt.obj_inv]
      exact ⟨a, us, rfl, .inl ⟨.of h1, fun l hl => f _ M _ _ h (TS.new hl) (mm.new hl) (.tup (.inl upd_same) (h2.keep (TS.new hl)))⟩⟩
    · exact h.elim
  · exact h.elim
/-- list(tuple) -/
def rToLst : DRA := fun ds M Q => match ds with
  | [.tup xs] => ∀ p, M p = none → Q (.obj p) (mset M p (.lst xs))
  | _ => False
theorem call_lstD : DCall X (.type "list") rToLst := call_imp call_list_of fun xs H R ⟨ds, M, Q, t, mm, h, f⟩ => by
  unfold rToLst at h
  split at h
  · obtain ⟨v, rfl, tt⟩ := t.one
    obtain ⟨a, us, rfl, h1, h2⟩ := tt.tup_inv
    exact ⟨a, us, rfl, .inr h1.sq, fun l hl => f _ _ _ _ (h l (mm.free hl)) (TS.new hl) (mm.addL hl h2) (.obj l)⟩
  · exact h.elim
end

/-! ### methods -/
section
variable {X : Cx} {o e : Expr} {apos cpos pos : Pos} {ta tb : DTE}
def isL (M : Mm) (x : D) : Prop := match x with
  | .obj a => match M a with
    | some (.lst _) => True
    | _ => False
  | _ => False
theorem isL_ok {M : Mm} {x : D} (h : isL M x) : ∃ a ds, x = .obj a ∧ M a = some (.lst ds) := by
  cases x with
  | obj a =>
    unfold isL at h
    simp only at h
    split at h
    · rename_i ds ho; exact ⟨a, ds, rfl, ho⟩
    · exact h.elim
  | _ => exact h.elim
def rApp : DR2 := fun x y M Q => match x with
  | .obj a => match M a with
    | some (.lst ds) => ds.length < sizeLine ∧ Q .non (mset M a (.lst (ds ++ [y])))
    | _ => False
  | _ => False
def dApp (ta tb : DTE) : DTE := fun Γ M Q => ta Γ M fun x M1 => isL M1 x ∧ tb Γ M1 fun y M2 => rApp x y M2 Q
theorem de_append (ho : DE X o ta) (he : DE X e tb) (hbase : attributeBase o "append" X.env (eval o X.env) = eval o X.env := by rfl)
    (hfew : ((backTo cpos (starEach [e] X.env)).all (fun x => !x.1) && (backToKw cpos (keywordEach [] X.env)).all (fun x => x.1.isSome) && decide ([e].length + ([] : List Keyword).length + (if ([] : List Keyword).isEmpty then 0 else 1) < 30)) = true := by rfl)
    (hline : (apos.endLine == cpos.line) = true := by rfl) (hs : starEach [e] X.env = (false, eval e X.env) :: starEach [] X.env := by rfl) (hplain : (backTo cpos (starEach [] X.env)).any (·.1) = false := by rfl) : DE X (.Call (.Attribute o "append" apos) [e] [] cpos) (dApp ta tb) :=
  pe_imp (pe_bm PySem.F.plainAttrs_list PySem.F.slot_list_append PySem.F.type_list_append mt_append ho (pa_cons he pa_nil hs) hbase hfew hline hs hplain) fun σ H R ⟨Γ, M, Q, ee, mm, h, f⟩ => ⟨Γ, M, _, ee, mm, h, fun x M1 v1 H1 q1 t1 m1 r1 => by
    obtain ⟨q0, q1⟩ := q1
    obtain ⟨a, ds0, rfl, e0⟩ := isL_ok q0
    obtain ⟨us0, g1, _⟩ := m1.lst e0
    rw [r1.obj_inv]
    refine ⟨.inl ⟨rfl, _, .of g1⟩, Γ, M1, _, ee.keep t1, m1, q1, fun y M2 v2 H2 q2 t2 m2 r2 => ?_⟩
    simp only [rApp] at q2
    split at q2
    · rename_i ds ho
      obtain ⟨us, h1, h2⟩ := m2.lst ho
      exact ⟨a, us, v2, rfl, rfl, h1, by rw [h2.len]; exact q2.1, f _ _ _ _ q2.2 (t1.tr (t2.tr (m2.tso ho))) (m2.setL ho (h2.app (.cons r2 .nil))) .non⟩
    · exact q2.elim⟩
def rPopD (x : D) (M : Mm) (Q : QD) : Prop := match x with
  | .obj a => match M a with
    | some (.lst ds) => ask ds[ds.length - 1]? fun d => Q d (mset M a (.lst ds.dropLast))
    | _ => False
  | _ => False
def dPop (ta : DTE) : DTE := fun Γ M Q => ta Γ M fun x M1 => rPopD x M1 Q
theorem de_pop (ho : DE X o ta) (hbase : attributeBase o "pop" X.env (eval o X.env) = eval o X.env := by rfl) (hline : (apos.endLine == cpos.line) = true := by rfl) : DE X (.Call (.Attribute o "pop" apos) [] [] cpos) (dPop ta) :=
  pe_imp (pe_bm0 PySem.F.plainAttrs_list PySem.F.slot_list_pop PySem.F.type_list_pop mt_pop ho hbase hline) fun σ H R ⟨Γ, M, Q, ee, mm, h, f⟩ => ⟨Γ, M, _, ee, mm, h, fun x M1 v1 H1 q1 t1 m1 r1 => by
    cases x with
    | obj a =>
      simp only [rPopD] at q1
      split at q1
      · rename_i ds ho
        obtain ⟨d, e1, q1⟩ := ask_ok q1
        obtain ⟨us, h1, h2⟩ := m1.lst ho
        obtain ⟨y, e2, ry⟩ := h2.at e1
        rw [r1.obj_inv]
        refine ⟨.inl ⟨rfl, _, .of h1⟩, a, us, y, rfl, rfl, h1, ?_, f d _ y _ q1 (t1.tr (m1.tso ho)) (m1.setL ho h2.dropLast) (ry.keep (m1.tso ho))⟩
        rw [h2.len]
        exact e2
      · exact q1.elim
    | _ => exact q1.elim⟩
/-- xs.index(y) of texts -/
def toSs : List D → Option (List Str)
  | [] => some []
  | .str b :: r => match toSs r with
    | some l => some (b :: l)
    | none => none
  | _ => none
theorem toSs_T {K : PySem.W.Frag} {H : Hp} : ∀ {ds : List D} {vs : List V} {bs : List Str}, Ts K H vs ds → toSs ds = some bs → vs = bs.map V.str
  | [], _, _, t, e => by cases t; cases e; rfl
  | .str b :: r, _, _, t, e => by
    cases t with
    | cons a c =>
      rw [toSs] at e
      split at e
      · rename_i l h1
        cases e
        rw [a.str_inv, toSs_T c h1]
        rfl
      · cases e
  | .non :: _, _, _, _, e => by simp [toSs] at e
  | .bl _ :: _, _, _, _, e => by simp [toSs] at e
  | .int _ :: _, _, _, _, e => by simp [toSs] at e
  | .tup _ :: _, _, _, _, e => by simp [toSs] at e
  | .obj _ :: _, _, _, _, e => by simp [toSs] at e
  | .ty _ :: _, _, _, _, e => by simp [toSs] at e
def dIndex (ta tb : DTE) : DTE := fun Γ M Q => ta Γ M fun x M1 => isL M1 x ∧ tb Γ M1 fun y M2 => match x, y with
  | .obj a, .str z => match M2 a with
    | some (.lst ds) => ask (toSs ds) fun ss => ask (ss.findIdx? fun q => decide (q = z)) fun j => Q (.int j) M2
    | _ => False
  | _, _ => False
theorem eqV_str (a b : Str) : eqV (.str a) (.str b) = decide (a = b) := by
  show (a == b) = decide (a = b)
  by_cases h : a = b
  · subst h; simp
  · rw [decide_eq_false h]
    exact beq_eq_false_iff_ne.mpr h
theorem de_index (ho : DE X o ta) (he : DE X e tb) (hbase : attributeBase o "index" X.env (eval o X.env) = eval o X.env := by rfl)
    (hfew : ((backTo cpos (starEach [e] X.env)).all (fun x => !x.1) && (backToKw cpos (keywordEach [] X.env)).all (fun x => x.1.isSome) && decide ([e].length + ([] : List Keyword).length + (if ([] : List Keyword).isEmpty then 0 else 1) < 30)) = true := by rfl)
    (hline : (apos.endLine == cpos.line) = true := by rfl) (hs : starEach [e] X.env = (false, eval e X.env) :: starEach [] X.env := by rfl) (hplain : (backTo cpos (starEach [] X.env)).any (·.1) = false := by rfl) : DE X (.Call (.Attribute o "index" apos) [e] [] cpos) (dIndex ta tb) :=
  pe_imp (pe_bm PySem.F.plainAttrs_list PySem.F.slot_list_index PySem.F.type_list_index mt_index ho (pa_cons he pa_nil hs) hbase hfew hline hs hplain) fun σ H R ⟨Γ, M, Q, ee, mm, h, f⟩ => ⟨Γ, M, _, ee, mm, h, fun x M1 v1 H1 q1 t1 m1 r1 => by
    obtain ⟨q0, q1⟩ := q1
    obtain ⟨a, ds0, rfl, e0⟩ := isL_ok q0
    obtain ⟨us0, g1, _⟩ := m1.lst e0
    rw [r1.obj_inv]
    refine ⟨.inl ⟨rfl, _, .of g1⟩, Γ, M1, _, ee.keep t1, m1, q1, fun y M2 v2 H2 q2 t2 m2 r2 => ?_⟩
    cases y with
    | str z =>
      simp only at q2
      split at q2
      · rename_i ds ho
        obtain ⟨ss, e1, q2⟩ := ask_ok q2
        obtain ⟨j, e2, q2⟩ := ask_ok q2
        obtain ⟨us, h1, h2⟩ := m2.lst ho
        have e3 := toSs_T h2 e1
        rw [List.findIdx?_eq_some_iff_getElem] at e2
        obtain ⟨hj, hz, hno⟩ := e2
        rw [r2.str_inv]
        refine ⟨a, us, .str z, j, .str ss[j], rfl, rfl, .of h1, rfl, ?_, ?_, ?_, fun m z' hm hz' => ?_, f _ M2 _ H2 q2 (t1.tr t2) m2 (.int _)⟩
        · rw [e3]
          exact flat_strs' ss
        · rw [e3, List.getElem?_map, List.getElem?_eq_getElem hj]
          rfl
        · rw [eqV_str]; exact hz
        · rw [e3, List.getElem?_map, List.getElem?_eq_getElem (by omega)] at hz'
          cases hz'
          rw [eqV_str]
          have := hno m hm
          simpa using this
      · exact q2.elim
    | _ => exact q2.elim⟩
where flat_strs' : ∀ ys : List Str, (ys.map V.str).all flatV = true
  | [] => rfl
  | _ :: ys => flat_strs' ys
/-- d.get(k), d a dict by stands -/
def dGet (ta tb : DTE) : DTE := fun Γ M Q => ta Γ M fun x M1 => match x with
  | .obj a => match M1 a with
    | some (.dct ob kvs) => tb Γ M1 fun y M2 => M2 a = some (.dct ob kvs) ∧ ask (toStand y) fun st => Q ((lk kvs st).getD .non) M2
    | _ => False
  | _ => False
theorem de_get (hu : X.A.units + 64 < cLine) (ho : DE X o ta) (he : DE X e tb) (m : M1 X o "get" apos e cpos) : DE X (.Call (.Attribute o "get" apos) [e] [] cpos) (dGet ta tb) := by
  refine ⟨fun pins s σ H R I ⟨Γ, M, Q, ee, mm, h, f⟩ => ?_⟩
  refine wpAny_Call_method m.base m.few m.line PySem.F.plainAttrs_dict PySem.F.slot_dict_get PySem.F.type_dict_get (thn (ho.run pins s σ H (fun v H1 => ∃ x M1, T X.K H1 v x ∧ TS H H1 ∧ MOk X.prog X.w X.K M1 H1 ∧ _) I ⟨Γ, M, _, ee, mm, h, fun x M1 v H1 q t1 m1 r1 => ⟨x, M1, r1, t1, m1, q⟩⟩) fun u s1 ⟨v, H1, I1, rx, x, M1, r1, t1, m1, q1⟩ => ?_)
  cases x with
  | obj a =>
    simp only at q1
    split at q1
    · rename_i ob kvs hd
      rw [r1.obj_inv] at rx
      cases rx
      obtain ⟨xs, h1, h2, h3⟩ := m1 a _ hd
      have hD := dobj_of I1 h1 h2 h3
      refine ⟨hD.typeIs, fun b q => ?_, ?_⟩
      · cases q
        obtain ⟨ob, _, _, g1, g2, _⟩ := hD
        exact ⟨ob, g1, g2.2.1⟩
      rw [m.trees]
      refine Calls.callWith_builtin rfl (Calls.evalArgs_plain (Calls.spliced_cons (thn (he.run pins s1 σ H1 (fun v H2 => ∃ y M2, T X.K H2 v y ∧ TS H1 H2 ∧ MOk X.prog X.w X.K M2 H2 ∧ _) I1 ⟨Γ, M1, _, ee.keep t1, m1, q1, fun y M2 v H2 q t2 m2 r2 => ⟨y, M2, r2, t2, m2, q⟩⟩) fun iv s2 ⟨v2, H2, I2, ry, y, M2, r2, t2, m2, q2⟩ => Calls.spliced_nil ?_)))
      obtain ⟨e2, q2⟩ := q2
      obtain ⟨st, e3, q2⟩ := ask_ok q2
      rw [of_toStand e3] at r2
      obtain ⟨b, rfl⟩ := r2.st_inv
      cases ry
      obtain ⟨xs2, g1, g2, g3⟩ := m2 a _ e2
      have hD2 := dobj_of I2 g1 g2 g3
      refine call_meetsIn PySem.F.slot_dict_get hD2.typeIs PySem.F.entry_dict_get (PySem.F.args_dict_get_2 _ _) (meetsH_dict_get (nestedKind X.prog X.w) a b g2.2.1) ⟨room_in1 hu, keyS st, xs2, key_is I2 r2, hD2, ?_⟩
      rcases pairedKD_at g3 st with ⟨z1, z2⟩ | ⟨d', p, w', z1, z2, z3, z4⟩
      · rw [z2]
        rw [z1] at q2
        exact ⟨.non, H2, I2.tok _, rfl, f _ M2 _ H2 q2 (t1.tr t2) m2 .non⟩
      · rw [z2]
        rw [z1] at q2
        exact ⟨w', H2, I2.tok _, z3, f _ M2 _ H2 q2 (t1.tr t2) m2 z4⟩
    · exact q1.elim
  | _ => exact q1.elim

/-! ### slices by written ends -/
def cutD (ds : List D) (lo hi : Option Int) : List D := (ds.drop (HT.sIx ds.length 0 lo)).take (HT.sIx ds.length ds.length hi - HT.sIx ds.length 0 lo)
theorem cut_Ts {K : PySem.W.Frag} {H : Hp} {vs : List V} {ds : List D} (t : Ts K H vs ds) (lo hi : Option Int) : Ts K H (cutV vs lo hi) (cutD ds lo hi) := by
  unfold cutV cutD
  rw [t.len]
  exact (t.drop _).take _
def rSl (lo hi : Option Int) (x : D) (M : Mm) (Q : QD) : Prop := match x with
  | .tup ds => Q (.tup (cutD ds lo hi)) M
  | .obj a => match M a with
    | some (.lst ds) => ∀ p, M p = none → Q (.obj p) (mset M p (.lst (cutD ds lo hi)))
    | _ => False
  | _ => False
def dSl (lo hi : Option Int) (ta : DTE) : DTE := fun Γ M Q => ta Γ M fun x M1 => rSl lo hi x M1 Q
/-- a written end -/
structure WPart (X : Cx) (e : Option Expr) (i : Option Int) : Prop where
  po : ∃ t, PO X e t ∧ ∀ σ H R, R i H → t σ H R
theorem wp_none : WPart X none none := ⟨_, po_none, fun _ _ _ h => h⟩
theorem wp_int {i : Int} {j : Nat} : WPart X (some (.Constant (.int i) j pos)) (some i) := ⟨_, po_some pe_int, fun _ _ _ h => ⟨i, rfl, h⟩⟩
theorem cut_whole {vs : List V} {lo hi : Option Int} (h : HT.sIx vs.length 0 lo = 0 ∧ HT.sIx vs.length vs.length hi = vs.length) : cutV vs lo hi = vs := by
  unfold cutV
  rw [h.1, h.2]
  simp
theorem de_slice {lo hi : Option Expr} {i j : Option Int} {p2 : Pos} (he : DE X e ta) (hl : WPart X lo i) (hh : WPart X hi j) : DE X (.Subscript e (.Slice lo hi none p2) pos) (dSl i j ta) := by
  obtain ⟨tl, hl, el⟩ := hl.po
  obtain ⟨th, hh, eh⟩ := hh.po
  refine pe_imp (pe_slice (sl_list.or sl_tupA) he hl hh) fun σ H R ⟨Γ, M, Q, ee, mm, h, f⟩ => ⟨Γ, M, _, ee, mm, h, fun x M1 v1 H1 q1 t1 m1 r1 => el _ _ _ (eh _ _ _ ?_)⟩
  cases x with
  | tup ds =>
    obtain ⟨a, us, rfl, h1, h2⟩ := r1.tup_inv
    refine .inr ⟨a, us, rfl, h1.sq, fun hw => ?_, fun _ p hp => ?_⟩
    · have e1 : Ts X.K H1 us (cutD ds i j) := by
        have := cut_Ts h2 i j
        rw [cut_whole hw] at this
        exact this
      exact f _ M1 _ H1 q1 t1 m1 (.tup h1 e1)
    · exact f _ M1 _ _ q1 (t1.tr (TS.new hp)) (m1.new hp) (.tup (.inl upd_same) ((cut_Ts h2 i j).keep (TS.new hp)))
  | obj a =>
    simp only [rSl] at q1
    split at q1
    · rename_i ds ho
      obtain ⟨us, h1, h2⟩ := m1.lst ho
      rw [r1.obj_inv]
      exact .inl ⟨a, us, rfl, .of h1, fun p hp => f _ _ _ _ (q1 p (m1.free hp)) (t1.tr (TS.new hp)) (m1.addL hp (cut_Ts h2 i j)) (.obj p)⟩
    · exact q1.elim
  | _ => exact q1.elim
end
end L3

/-! L3: targets, statements, loops, comprehensions, defs, by data. -/
namespace L3
open PySem PySem.Spec PyProof.Rows L2

/-! ### targets -/
abbrev Sets := List (Nat × D)
def setV (σ : L2.St) (vs : List (Nat × V)) : L2.St := vs.foldl (fun σ p => σ.set p.1 (some p.2)) σ
def setG (Γ : Ge) (ds : Sets) : Ge := ds.foldl (fun Γ p => Γ.set p.1 (some p.2)) Γ
section
variable (K : PySem.W.Frag)
def SR (H : Hp) : List (Nat × V) → Sets → Prop := Paired fun p q => p.1 = q.1 ∧ T K H p.2 q.2
def lG (as : D → Option Sets) : TG := fun v σ H R => ∃ d sets, T K H v d ∧ as d = some sets ∧ ∀ vs, SR K H vs sets → R (setV σ vs) H
end
abbrev DG (X : Cx) (tg : Expr) (as : D → Option Sets) : Prop := PG X tg (lG X.K as)
theorem SR.env {K : PySem.W.Frag} {H : Hp} {vs : List (Nat × V)} {ds : Sets} (h : SR K H vs ds) : ∀ {σ : L2.St} {Γ : Ge}, EOk K H σ Γ → EOk K H (setV σ vs) (setG Γ ds) := by
  induction h with
  | nil => exact fun e => e
  | @cons p q l1 l2 hk _ ih =>
    intro σ Γ e
    refine ih ?_
    have z := e.set (i := p.1) hk.2
    show EOk K H (σ.set p.1 (some p.2)) (Γ.set q.1 (some q.2))
    rw [← hk.1]
    exact z
section
variable {X : Cx} {tg e : Expr} {es : List Expr} {pos : Pos} {te : DTE}
theorem pg_imp {t t' : TG} (h : PG X tg t) (i : ∀ v σ H Q, t' v σ H Q → t v σ H Q) : PG X tg t' := ⟨fun pins s σ H v u Q I r q => h.run pins s σ H v u Q I r (i _ _ _ _ q)⟩
def asN (i : Nat) : D → Option Sets := fun d => some [(i, d)]
theorem dg_name {i : Nat} (h : PG X tg (gName i)) : DG X tg (asN i) := pg_imp h fun v σ H R ⟨d, sets, t, e, f⟩ => by
  cases e
  exact f [(i, v)] (.cons ⟨rfl, t⟩ .nil)
def gNames : List Nat → TGs
  | [] => gNil
  | i :: is => gCons (gName i) (gNames is)
def asT (is : List Nat) : D → Option Sets
  | .tup ds => if ds.length = is.length then some (is.zip ds) else none
  | _ => none
theorem gNames_ok {K : PySem.W.Frag} : ∀ (is : List Nat) (xs : List V) (ds : List D) (σ : L2.St) (H : Hp) (R : L2.St → Hp → Prop), Ts K H xs ds → ds.length = is.length →
    (∀ vs, SR K H vs (is.zip ds) → R (setV σ vs) H) → gNames is xs σ H R
  | [], _, [], σ, H, R, .nil, _, f => ⟨rfl, f [] .nil⟩
  | i :: is, _, d :: ds, σ, H, R, .cons (v := v) (vs := vs) a b, hl, f => by
    refine ⟨v, vs, rfl, ?_⟩
    refine gNames_ok is vs ds (σ.set i (some v)) H R b (by simpa using hl) fun ws hw => ?_
    exact f ((i, v) :: ws) (.cons ⟨rfl, a⟩ hw)
  | [], _, _ :: _, _, _, _, _, hl, _ => by simp at hl
  | _ :: _, _, [], _, _, _, _, hl, _ => by simp at hl
theorem dg_tup {is : List Nat} {n : Nat} (h : PG X tg (gTup X.K n (gNames is))) (hn : n = is.length) : DG X tg (asT is) := pg_imp h fun v σ H R ⟨d, sets, t, e, f⟩ => by
  cases d with
  | tup ds =>
    unfold asT at e
    simp only at e
    split at e
    · rename_i hl
      cases e
      obtain ⟨a, xs, rfl, h1, h2⟩ := t.tup_inv
      exact ⟨a, xs, rfl, h1.sq, by rw [h2.len, hl, hn], gNames_ok is xs ds σ H R h2 hl f⟩
    · cases e
  | _ => cases e

/-! ### small statements -/
def dAsg (te : DTE) (as : D → Option Sets) : DTS := fun En Γ M => te Γ M fun d M1 => ask (as d) fun sets => En.nx (setG Γ sets) M1
theorem lS_of {P : Program} {w : World} {K : PySem.W.Frag} {t : DTS} {Dn : Ends} {σ : L2.St} {H : Hp} {Γ : Ge} {M : Mm} {En : DEn} (ee : EOk K H σ Γ) (mm : MOk P w K M H) (h : t En Γ M)
    (f1 : ∀ Γ' M' σ' H', En.nx Γ' M' → TS H H' → MOk P w K M' H' → EOk K H' σ' Γ' → Dn.nx σ' H')
    (f2 : ∀ d M' v H', En.rt d M' → TS H H' → MOk P w K M' H' → T K H' v d → Dn.rt v H')
    (f3 : ∀ Γ' M' σ' H', En.bk Γ' M' → TS H H' → MOk P w K M' H' → EOk K H' σ' Γ' → Dn.bk σ' H')
    (f4 : ∀ Γ' M' σ' H', En.ct Γ' M' → TS H H' → MOk P w K M' H' → EOk K H' σ' Γ' → Dn.ct σ' H') : lS P w K t Dn σ H := ⟨Γ, M, En, ee, mm, h, f1, f2, f3, f4⟩
theorem ds_asg {as : D → Option Sets} (he : DE X e te) (hg : DG X tg as) (hs : swapsWithSole [tg] e pos.line X.env = pure false := by rfl) (hw : swappedStores [tg] e X.env = pure none := by rfl)
    (h1 : (assignEach [tg] X.env).map (·.2) = [assign tg X.env] := by rfl) : DS X (.Assign [tg] e pos) (dAsg te as) :=
  ps_imp (ps_asg he hg hs hw h1) fun Dn σ H ⟨Γ, M, En, ee, mm, h, f1, f2, f3, f4⟩ => ⟨Γ, M, _, ee, mm, h, fun d M1 v H1 q t1 m1 r1 => by
    obtain ⟨sets, e1, q⟩ := ask_ok q
    exact ⟨d, sets, r1, e1, fun vs hv => f1 _ _ _ _ q t1 m1 (hv.env (ee.keep t1))⟩⟩
def dSet (i : Nat) (te : DTE) : DTS := fun En Γ M => te Γ M fun d M1 => En.nx (Γ.set i (some d)) M1
theorem ds_set {i : Nat} {x : Str} {pos' : Pos} (hN : X.N.Nodup) (hi : X.N[i]? = some x) (hx : Loc X.env.scope x) (he : DE X e te) (hs : swapsWith e (some (.Name x pos')) pos.line X.env = pure false := by rfl)
    (hf : X.fn x = true ∨ X.env.scope.names.lookup x = some .local := by first | exact .inl rfl | exact .inr rfl | assumption) : DS X (.Assign [.Name x pos'] e pos) (dSet i te) :=
  ps_imp (ps_set hN hi hx he hs hf) fun Dn σ H ⟨Γ, M, En, ee, mm, h, f1, f2, f3, f4⟩ => ⟨Γ, M, _, ee, mm, h, fun d M1 v H1 q t1 m1 r1 => f1 _ _ _ _ q t1 m1 ((ee.keep t1).set r1)⟩
/-- o[i] = e -/
def dSub (tv to ti : DTE) : DTS := fun En Γ M => tv Γ M fun v M1 => to Γ M1 fun o M2 => ti Γ M2 fun i M3 => rSet o i v M3 fun M4 => En.nx Γ M4
theorem ds_sub {o i : Expr} {to ti : DTE} {pt : Pos} (hu : X.A.units + 64 < cLine) (hv : DE X e te) (ho : DE X o to) (hi : DE X i ti)
    (ha : ∀ v, assign (.Subscript o i pt) X.env v = (do
      let b ← holding [v] (eval o X.env)
      let j ← holding [v, b] (eval i X.env)
      standAt pt
      holding [v, b, j] (setItem b j v)
      release [v, b, j] []) := by intro _; rfl)
    (hs : swapsWithSole [.Subscript o i pt] e pos.line X.env = pure false := by rfl) (hw : swappedStores [.Subscript o i pt] e X.env = pure none := by rfl)
    (h1 : (assignEach [.Subscript o i pt] X.env).map (·.2) = [assign (.Subscript o i pt) X.env] := by rfl) : DS X (.Assign [.Subscript o i pt] e pos) (dSub te to ti) :=
  ps_imp (ps_asg hv (pg_sub ho hi (set_any hu) ha) hs hw h1) fun Dn σ H ⟨Γ, M, En, ee, mm, h, f1, f2, f3, f4⟩ => ⟨Γ, M, _, ee, mm, h, fun v M1 u1 H1 q1 t1 m1 r1 =>
    ⟨Γ, M1, _, ee.keep t1, m1, q1, fun o M2 u2 H2 q2 t2 m2 r2 => ⟨Γ, M2, _, ee.keep (t1.tr t2), m2, q2, fun i M3 u3 H3 q3 t3 m3 r3 =>
      ⟨o, i, v, M3, _, r2.keep t3, r3, r1.keep (t2.tr t3), m3, q3, fun M4 H4 q4 t4 m4 => f1 _ _ _ _ q4 (t1.tr (t2.tr (t3.tr t4))) m4 (ee.keep (t1.tr (t2.tr (t3.tr t4))))⟩⟩⟩⟩
/-- a, b = x, y -/
def dPar (i j : Nat) (ta : DTA) : DTS := fun En Γ M => ta Γ M fun ds M1 => match ds with
  | [a, b] => En.nx ((Γ.set i (some a)).set j (some b)) M1
  | _ => False
theorem ds_par {ta : DTA} {i j : Nat} {st : Stmt} (h : PS X st (tPar i j (lA X.prog X.w X.K ta))) : DS X st (dPar i j ta) :=
  ps_imp h fun Dn σ H ⟨Γ, M, En, ee, mm, h, f1, f2, f3, f4⟩ => ⟨Γ, M, _, ee, mm, h, fun ds M1 vs H1 q t1 m1 r1 => by
    split at q
    · obtain ⟨v, u, rfl, a, b⟩ := Ts.two r1
      exact ⟨v, u, rfl, f1 _ _ _ _ q t1 m1 (((ee.keep t1).set a).set b)⟩
    · exact q.elim⟩
def dPar3 (i j l : Nat) (ta : DTA) : DTS := fun En Γ M => ta Γ M fun ds M1 => match ds with
  | [a, b, c] => En.nx (((Γ.set i (some a)).set j (some b)).set l (some c)) M1
  | _ => False
theorem ds_par3 {ta : DTA} {i j l : Nat} {st : Stmt} (h : PS X st (tPar3 i j l (lA X.prog X.w X.K ta))) : DS X st (dPar3 i j l ta) :=
  ps_imp h fun Dn σ H ⟨Γ, M, En, ee, mm, h, f1, f2, f3, f4⟩ => ⟨Γ, M, _, ee, mm, h, fun ds M1 vs H1 q t1 m1 r1 => by
    split at q
    · cases r1 with
      | cons a r =>
        obtain ⟨v, u, rfl, b, c⟩ := Ts.two r
        exact ⟨_, v, u, rfl, f1 _ _ _ _ q t1 m1 ((((ee.keep t1).set a).set b).set c)⟩
    · exact q.elim⟩
/-- x += e -/
def rIAdd : DR2 := fun x y M Q => match x, y with
  | .int i, .int j => Q (.int (i + j)) M
  | .obj a, .obj b => match M a, M b with
    | some (.lst xs), some (.lst ys) => xs.length + ys.length ≤ sizeLine ∧ Q (.obj a) (mset M a (.lst (xs ++ ys)))
    | _, _ => False
  | _, _ => False
theorem op_iaddD : DOp X (inplaceOp .Add) rIAdd := op_imp (iop_add.or iop_ext) fun x y H R ⟨dx, dy, M, Q, tx, ty, mm, h, f⟩ => by
  unfold rIAdd at h
  split at h
  · exact .inl ⟨_, _, tx.int_inv, ty.int_inv, f _ M _ H h TS.rfl' mm (.int _)⟩
  · split at h
    · rename_i a b _ _ xs ys e1 e2
      obtain ⟨us, h1, h2⟩ := mm.lst e1
      obtain ⟨ws, h3, h4⟩ := mm.lst e2
      exact .inr ⟨a, b, us, ws, tx.obj_inv, ty.obj_inv, h1, h3, by rw [h2.len, h4.len]; exact h.1, f _ _ _ _ h.2 (mm.tso e1) (mm.setL e1 (h2.app h4)) (.obj a)⟩
    · exact h.elim
  · exact h.elim
def dAug (i : Nat) (te : DTE) : DTS := fun En Γ M => ask (Γ.getD i none) fun x => te Γ M fun y M1 => rIAdd x y M1 fun z M2 => En.nx (Γ.set i (some z)) M2
theorem ds_aug {i : Nat} {x : Str} {pos' : Pos} (hN : X.N.Nodup) (hi : X.N[i]? = some x) (hx : Loc X.env.scope x) (he : DE X e te)
    (hf : X.fn x = true ∨ X.env.scope.names.lookup x = some .local := by first | exact .inl rfl | exact .inr rfl | assumption) : DS X (.AugAssign (.Name x pos') .Add e pos) (dAug i te) :=
  ps_imp (ps_aug (ti := l2 X.prog X.w X.K rIAdd) hN hi hx he op_iaddD hf) fun Dn σ H ⟨Γ, M, En, ee, mm, h, f1, f2, f3, f4⟩ => by
    obtain ⟨d, e1, h⟩ := ask_ok h
    obtain ⟨v, e2, r⟩ := ee.at (getD_at e1)
    refine ⟨v, e2, Γ, M, _, ee, mm, h, fun y M1 u H1 q1 t1 m1 r1 => ?_⟩
    exact ⟨d, y, M1, _, r.keep t1, r1, m1, q1, fun z M2 u2 H2 q2 t2 m2 r2 => f1 _ _ _ _ q2 (t1.tr t2) m2 ((ee.keep (t1.tr t2)).set r2)⟩
def dDrop (te : DTE) : DTS := fun En Γ M => te Γ M fun _ M1 => En.nx Γ M1
theorem ds_expr (he : DE X e te) (hs : swapsWith e none pos.line X.env = pure false := by rfl) : DS X (.Expr e pos) (dDrop te) :=
  ps_imp (ps_expr he hs) fun Dn σ H ⟨Γ, M, En, ee, mm, h, f1, f2, f3, f4⟩ => ⟨Γ, M, _, ee, mm, h, fun d M1 v H1 q t1 m1 r1 => f1 _ _ _ _ q t1 m1 (ee.keep t1)⟩
def dRet (te : DTE) : DTS := fun En Γ M => te Γ M En.rt
theorem ds_ret (he : DE X e te) : DS X (.Return (some e) pos) (dRet te) :=
  ps_imp (ps_ret he) fun Dn σ H ⟨Γ, M, En, ee, mm, h, f1, f2, f3, f4⟩ => ⟨Γ, M, _, ee, mm, h, fun d M1 v H1 q t1 m1 r1 => f2 _ _ _ _ q t1 m1 r1⟩
variable {sts sts' : List Stmt} {st : Stmt} {t u : DTS} {c : Expr} {tc : DTT}
def dIfS (c : DTT) (t u : DTS) : DTS := fun En Γ M => c Γ M fun b M1 => if b = true then t En Γ M1 else u En Γ M1
theorem ds_if (hc : DT X c tc) (ha : DSs X sts t) (hb : DSs X sts' u) : DS X (.If c sts sts' pos) (dIfS tc t u) :=
  ps_imp (ps_if hc ha hb) fun Dn σ H ⟨Γ, M, En, ee, mm, h, f1, f2, f3, f4⟩ => ⟨Γ, M, _, ee, mm, h, fun b M1 H1 q t1 m1 => by
    have r1 : ∀ Γ' M' σ' H', En.nx Γ' M' → TS H1 H' → MOk X.prog X.w X.K M' H' → EOk X.K H' σ' Γ' → Dn.nx σ' H' := fun Γ' M' σ' H' a b c d => f1 Γ' M' σ' H' a (t1.tr b) c d
    cases b with
    | true => exact ⟨Γ, M1, En, ee.keep t1, m1, q, r1, fun d M' v H' a b c e => f2 d M' v H' a (t1.tr b) c e, fun Γ' M' σ' H' a b c d => f3 Γ' M' σ' H' a (t1.tr b) c d, fun Γ' M' σ' H' a b c d => f4 Γ' M' σ' H' a (t1.tr b) c d⟩
    | false => exact ⟨Γ, M1, En, ee.keep t1, m1, q, r1, fun d M' v H' a b c e => f2 d M' v H' a (t1.tr b) c e, fun Γ' M' σ' H' a b c d => f3 Γ' M' σ' H' a (t1.tr b) c d, fun Γ' M' σ' H' a b c d => f4 Γ' M' σ' H' a (t1.tr b) c d⟩⟩
def dNext : DTS := fun En Γ M => En.nx Γ M
def dSeq (t u : DTS) : DTS := fun En Γ M => t { En with nx := u En } Γ M
theorem dss_nil : DSs X [] dNext := pss_imp pss_nil fun Dn σ H ⟨Γ, M, En, ee, mm, h, f1, f2, f3, f4⟩ => f1 _ _ _ _ h TS.rfl' mm ee
theorem dss_one (h : DS X st t) : DSs X [st] t := pss_one h
theorem dss_cons (h1 : DS X st t) (h2 : DSs X sts u) : DSs X (st :: sts) (dSeq t u) :=
  pss_imp (pss_cons h1 h2) fun Dn σ H ⟨Γ, M, En, ee, mm, h, f1, f2, f3, f4⟩ =>
    ⟨Γ, M, { En with nx := u En }, ee, mm, h, fun Γ1 M1 σ1 H1 q t1 m1 e1 =>
      ⟨Γ1, M1, En, e1, m1, q, fun Γ' M' σ' H' a b c d => f1 Γ' M' σ' H' a (t1.tr b) c d, fun d M' v H' a b c e => f2 d M' v H' a (t1.tr b) c e, fun Γ' M' σ' H' a b c d => f3 Γ' M' σ' H' a (t1.tr b) c d, fun Γ' M' σ' H' a b c d => f4 Γ' M' σ' H' a (t1.tr b) c d⟩,
      f2, f3, f4⟩
def dNever : DTS := fun _ _ _ => False
theorem ds_never : DS X st dNever := ps_imp ps_never fun Dn σ H ⟨Γ, M, En, ee, mm, h, f⟩ => h

/-! ### while -/
def dWhile (c : DTT) (tb : DTS) : DTS := fun En Γ M => ∃ W : Nat → Ge → Mm → Prop, (∃ m, W m Γ M) ∧ ∀ m Γ M, W m Γ M →
  c Γ M fun b M1 => if b = true then tb { En with nx := fun Γ' M' => ∃ m', m' < m ∧ W m' Γ' M', ct := fun Γ' M' => ∃ m', m' < m ∧ W m' Γ' M', bk := En.nx } Γ M1 else En.nx Γ M1
theorem ds_while (hp : PassesOwn (model X.prog X.w) X.A X.env X.xe) (hc : DT X c tc) (hb : DSs X sts t) : DS X (.While c sts [] pos) (dWhile tc t) :=
  ps_imp (ps_while hp hc hb) fun Dn σ H ⟨Γ, M, En, ee, mm, h, f1, f2, f3, f4⟩ => by
    rcases h with ⟨W, ⟨m0, w0⟩, turn⟩
    refine ⟨fun m σ1 H1 => ∃ Γ1 M1, W m Γ1 M1 ∧ TS H H1 ∧ MOk X.prog X.w X.K M1 H1 ∧ EOk X.K H1 σ1 Γ1, ⟨m0, Γ, M, w0, TS.rfl', mm, ee⟩, ?_⟩
    rintro m σ1 H1 ⟨Γ1, M1, w1, t1, m1, e1⟩
    refine ⟨Γ1, M1, _, e1, m1, turn m Γ1 M1 w1, fun b M2 H2 q t2 m2 => ?_⟩
    cases b with
    | true =>
      have nx : ∀ Γ' M' σ' H', (∃ m', m' < m ∧ W m' Γ' M') → TS H2 H' → MOk X.prog X.w X.K M' H' → EOk X.K H' σ' Γ' → ∃ m', m' < m ∧ ∃ Γ1 M1, W m' Γ1 M1 ∧ TS H H' ∧ MOk X.prog X.w X.K M1 H' ∧ EOk X.K H' σ' Γ1 :=
        fun Γ' M' σ' H' ⟨m', hm, w'⟩ t3 m3 e3 => ⟨m', hm, Γ', M', w', t1.tr (t2.tr t3), m3, e3⟩
      refine ⟨fun σ' H' => ∃ m', m' < m ∧ ∃ Γ1 M1, W m' Γ1 M1 ∧ TS H H' ∧ MOk X.prog X.w X.K M1 H' ∧ EOk X.K H' σ' Γ1, fun σ' H' z => z, ?_⟩
      exact ⟨Γ1, M2, _, e1.keep t2, m2, q, nx, fun d M' v H' a b c e => f2 d M' v H' a (t1.tr (t2.tr b)) c e, fun Γ' M' σ' H' a b c d => f1 Γ' M' σ' H' a (t1.tr (t2.tr b)) c d, nx⟩
    | false => exact f1 _ _ _ _ q (t1.tr t2) m2 (e1.keep t2)

/-! ### what is walked -/
abbrev Src := Mm → List D → Prop
structure ItOk (P : Program) (w : World) (K : PySem.W.Frag) (J : It) (H0 : Hp) (src : Src) : Prop where
  go : ∀ i M H ds, TS H0 H → MOk P w K M H → src M ds → i < ds.length → J.go i H
  yld : ∀ i M H x H' ds, TS H0 H → MOk P w K M H → src M ds → i < ds.length → J.yld i H x H' → TS H H' ∧ MOk P w K M H' ∧ ∃ d, ds[i]? = some d ∧ T K H' x d
  stop : ∀ i M H ds, TS H0 H → MOk P w K M H → src M ds → ds.length ≤ i → J.stop i H
abbrev DTI := Ge → Mm → (Src → Mm → Prop) → Prop
def lI (P : Program) (w : World) (K : PySem.W.Frag) (t : DTI) : TI := fun σ H R => ∃ Γ M Q, EOk K H σ Γ ∧ MOk P w K M H ∧ t Γ M Q ∧ ∀ src M' J H', Q src M' → TS H H' → MOk P w K M' H' → ItOk P w K J H' src → R J H'
end
abbrev DI (X : Cx) (tg e : Expr) (t : DTI) : Prop := PI X tg e (lI X.prog X.w X.K t)
section
variable {X : Cx} {tg e : Expr} {es : List Expr} {pos p : Pos} {te : DTE} {tr : DTA}
theorem pi_imp {t t' : TI} (h : PI X tg e t) (i : ∀ σ H Q, t' σ H Q → t σ H Q) : PI X tg e t' := ⟨fun pins s σ H Q I q => h.run pins s σ H Q I (i _ _ _ q)⟩
def srcL (a : Addr) : Src := fun M ds => M a = some (.lst ds)
def srcC (ds : List D) : Src := fun _ ds' => ds' = ds
def srcK (a : Addr) (o : Obj) : Src := fun M ds => ∃ kvs, M a = some (.dct o kvs) ∧ ds = kvs.map fun p => standD p.1
theorem it_list {P : Program} {w : World} {K : PySem.W.Frag} {a : Addr} {H0 : Hp} : ItOk P w K (Itl K a) H0 (srcL a) where
  go := fun i M H ds _ mm h hi => by
    obtain ⟨xs, h1, h2⟩ := mm.lst h
    obtain ⟨v, e, _⟩ := h2.at (List.getElem?_eq_getElem hi)
    exact ⟨xs, v, .of h1, e⟩
  yld := fun i M H x H' ds _ mm h _ ⟨e, y⟩ => by
    subst e
    obtain ⟨xs, h1, h2⟩ := mm.lst h
    obtain ⟨d, e, r⟩ := h2.at' (y xs (.of h1))
    exact ⟨TS.rfl', mm, d, e, r⟩
  stop := fun i M H ds _ mm h hi => by
    obtain ⟨xs, h1, h2⟩ := mm.lst h
    exact ⟨xs, .of h1, by rw [h2.len]; exact hi⟩
def rIL (x : D) (M : Mm) (R : Src → Mm → Prop) : Prop := isL M x ∧ match x with
  | .obj a => R (srcL a) M
  | _ => False
def dIL (te : DTE) : DTI := fun Γ M R => te Γ M fun x M1 => rIL x M1 R
theorem di_list (he : DE X e te) : DI X tg e (dIL te) := pi_imp (pi_list he) fun σ H R ⟨Γ, M, Q, ee, mm, h, f⟩ => ⟨Γ, M, _, ee, mm, h, fun x M1 v H1 q t1 m1 r1 => by
  obtain ⟨q0, q⟩ := q
  obtain ⟨a, ds, rfl, e0⟩ := isL_ok q0
  obtain ⟨xs, h1, _⟩ := m1.lst e0
  exact ⟨a, r1.obj_inv, ⟨xs, .of h1⟩, f _ M1 _ H1 q t1 m1 it_list⟩⟩
/-- a tuple -/
def rIT (x : D) (M : Mm) (R : Src → Mm → Prop) : Prop := match x with
  | .tup ds => R (srcC ds) M
  | _ => False
def dIT (te : DTE) : DTI := fun Γ M R => te Γ M fun x M1 => rIT x M1 R
def ItT (K : PySem.W.Frag) (xs : List V) (a : Addr) : It :=
  ⟨fun i H => SqT K H a xs ∧ i < xs.length, fun i H x H' => H' = H ∧ xs[i]? = some x, fun i H => SqT K H a xs ∧ xs.length ≤ i⟩
theorem turn_imp {P : Program} {w : World} {K : PySem.W.Frag} {J J' : It} {fp : List Addr} {it : Addr} {tn : Nat → Heap → Prop} (Tn : Turn P w K tg J fp it tn)
    (h1 : ∀ i H, J'.go i H → J.go i H) (h2 : ∀ i H x H', J'.go i H → J.yld i H x H' → J'.yld i H x H') (h3 : ∀ i H, J'.stop i H → J.stop i H) : Turn P w K tg J' fp it tn where
  mem := Tn.mem
  obj := Tn.obj
  keep := Tn.keep
  item := fun X a b c d i pins s σ H E I hf st hg => wpAny_mono (Tn.item X a b c d i pins s σ H E I hf st (h1 i H hg))
    (fun r s1 ⟨u, e, q⟩ => ⟨u, e, wpAny_mono q (fun _ s2 ⟨x, H', z1, z2, z3, z4⟩ => ⟨x, H', z1, z2, h2 _ _ _ _ hg z3, z4⟩) fun _ _ z => z⟩) fun _ _ z => z
  done := fun X a b c d i pins s σ H E I hf st hg => Tn.done X a b c d i pins s σ H E I hf st (h3 i H hg)
  self := Tn.self
theorem di_tup (he : DE X e te) : DI X tg e (dIT te) := by
  refine ⟨fun pins s σ H R I ⟨Γ, M, Q, ee, mm, h, f⟩ => ?_⟩
  refine thn (he.run pins s σ H (fun v H1 => ∃ x M1, T X.K H1 v x ∧ TS H H1 ∧ MOk X.prog X.w X.K M1 H1 ∧ _) I ⟨Γ, M, _, ee, mm, h, fun x M1 v H1 q t1 m1 r1 => ⟨x, M1, r1, t1, m1, q⟩⟩) fun u s1 ⟨v, H1, I1, rx, x, M1, r1, t1, m1, q1⟩ => ?_
  cases x with
  | tup ds =>
    obtain ⟨a, xs, rfl, h1, h2⟩ := r1.tup_inv
    cases rx
    obtain ⟨its, rv, p, hz⟩ := I1.tuple h1.sq
    refine wpAny_pyIter_tuple (id p : s1.heap.IsTuple a its.toArray) ?_
    have tn := turn_imp (J' := ItT X.K xs a) (turn_tuple (P := X.prog) (w := X.w) (K := X.K) (tg := tg) a s1.heap.objs.size) (fun i H ⟨g1, g2⟩ => ⟨xs, xs[i], g1, List.getElem?_eq_getElem g2⟩)
      (fun i H x H' ⟨g1, g2⟩ ⟨y1, y2⟩ => ⟨y1, y2 xs g1⟩) (fun i H ⟨g1, g2⟩ => ⟨xs, g1, g2⟩)
    refine pi_one (tk := s1.toks) I1 _ tn ⟨_, Heap.get?_push_size _ rfl, rfl, rfl⟩ (f (srcC ds) M1 _ H1 q1 t1 m1 ?_)
    refine ⟨fun i M H ds' tt mm e hi => ⟨(h1.keep tt).sq, ?_⟩, fun i M H x H' ds' tt mm e _ y => ?_, fun i M H ds' tt mm e hi => ⟨(h1.keep tt).sq, ?_⟩⟩
    · rw [h2.len, ← show ds' = ds from e]; exact hi
    · obtain ⟨rfl, y⟩ := y
      obtain ⟨d, e1, r⟩ := (h2.keep tt).at' y
      exact ⟨TS.rfl', mm, d, by rw [show ds' = ds from e]; exact e1, r⟩
    · rw [h2.len, ← show ds' = ds from e]; exact hi
  | _ => exact q1.elim
/-- the keys of a dict -/
def rIK (x : D) (M : Mm) (R : Src → Mm → Prop) : Prop := match x with
  | .obj a => match M a with
    | some (.dct o kvs) => R (srcK a o) M
    | _ => False
  | _ => False
def dIK (te : DTE) : DTI := fun Γ M R => te Γ M fun x M1 => rIK x M1 R
def ItK (a : Addr) (o : Obj) : It :=
  ⟨fun i H => H a = some (exo a o) ∧ ∃ es ep en q, o.data = .dict es ep ∧ es[i]? = some en ∧ en.key = .ref q,
   fun i H x H' => H' = H ∧ ∃ es ep en, o.data = .dict es ep ∧ es[i]? = some en ∧ RelV x en.key,
   fun i H => H a = some (exo a o) ∧ ∃ es ep, o.data = .dict es ep ∧ es.size ≤ i⟩
theorem KDs_at {K : PySem.W.Frag} {H : Hp} {kvs : List (Stand × D)} {xs : List (NestedKey × Addr × Value)} (h : Paired (KD K H) kvs xs) : ∀ {i : Nat} {x : NestedKey × Addr × Value}, xs[i]? = some x → ∃ kv, kvs[i]? = some kv ∧ KD K H kv x := by
  induction h with
  | nil => intro i x e; simp at e
  | @cons a b l1 l2 hk _ ih =>
    intro i x e
    cases i with
    | zero => simp at e; subst e; exact ⟨a, rfl, hk⟩
    | succ i =>
      obtain ⟨kv, e1, e2⟩ := ih (by simpa using e)
      exact ⟨kv, by simpa using e1, e2⟩
theorem DObj.ent {P : Program} {w : World} {a : Addr} {o : Obj} {xs : List (NestedKey × Addr × Value)} (h : DObj P w a o xs) {es : Array DictEntry} {ep : Nat} (e : o.data = .dict es ep) :
    es.size = xs.length ∧ ∀ (i : Nat) (x : NestedKey × Addr × Value), xs[i]? = some x → ∃ en : DictEntry, es[i]? = some en ∧ en.key = Value.ref x.2.1 := by
  obtain ⟨_, _, _, es', ep', h1, h2, _⟩ := h
  rw [e] at h1
  cases h1
  have hs : es.size = xs.length := by rw [← Array.length_toList, h2, List.length_map]
  refine ⟨hs, fun i x hx => ⟨entryOfKey (nestedKind P w) x, ?_, rfl⟩⟩
  rw [← Array.getElem?_toList, h2, List.getElem?_map, hx]
  rfl
theorem turn_stands {P : Program} {w : World} {K : PySem.W.Frag} {a : Addr} {o : Obj} {es : Array DictEntry} {ep : Nat} (it : Addr) (hod : o.data = .dict es ep) : Turn P w K tg (ItK a o) [it] it (fun i h => h.IsKeyIter it a i es.size ep) where
  mem := by simp
  obj := fun i h st b hb => by
    obtain rfl : b = it := by simpa using hb
    obtain ⟨oi, e, c, dd⟩ := st
    exact ⟨oi, e, fun v z => nomatch dd.symm.trans z⟩
  keep := fun i h h' st k => st.at fun oi => k it (List.mem_singleton.mpr rfl) oi
  item := by
    intro X hP hw hK hc i pins s σ H E I hf st ⟨ha, es', ep', en, q, e0, e1, e2⟩
    subst hP hw hK
    rw [hod] at e0
    cases e0
    obtain ⟨f0, f1, f2, f3, f4, f5⟩ := hf it (List.mem_singleton.mpr rfl)
    refine next_key_item st (ext_at I ha) hod rfl e1 fun h' st' sb => ?_
    have I1 : Inv X pins σ H { s with heap := h' } := I.turned (t' := s.toks) (fun b ob hb => (sb.2 b hb).trans) f0 f1 f3 f4 f5
    rcases id st' with ⟨oi, e, c, dd⟩
    exact ⟨en.key, rfl, go_of (s := { s with heap := h' }) e c dd (by decide) ⟨.ref q, H, I1, e2, ⟨rfl, es, ep, en, hod, e1, e2⟩, st', fun b hb => (hf b hb).1⟩⟩
  done := by
    intro X hP hw hK hc i pins s σ H E I hf st ⟨ha, es', ep', e0, hi⟩
    subst hP hw hK
    rw [hod] at e0
    cases e0
    obtain ⟨f0, f1, f2, f3, f4, f5⟩ := hf it (List.mem_singleton.mpr rfl)
    exact next_key_end (I.ok.hd hc) st (ext_at I ha) hod rfl hi fun h' eb => ⟨rfl, I.turned (t' := s.toks) (fun b ob hb => eb b ob hb) f0 f1 f3 f4 f5⟩
  self := fun A _ s Q E st q => by
    refine wpAny_pyIter_slot st.typeIs F.slot_dict_keyiterator_iter (wpAny_call_entry F.slot_dict_keyiterator_iter st.typeIs F.entry_dict_keyiterator_iter (show wpAny _ _ (ret (.ref it)) _ _ s from ?_) (F.args_dict_keyiterator_iter_1 _)); exact wpAny_pure ⟨_, rfl, "dict_keyiterator", _, st.typeIs, F.slot_dict_keyiterator_next.lookup, q⟩
theorem it_keys {P : Program} {w : World} {K : PySem.W.Frag} {a : Addr} {o : Obj} {H0 : Hp} : ItOk P w K (ItK a o) H0 (srcK a o) where
  go := fun i M H ds _ mm ⟨kvs, h, e⟩ hi => by
    subst e
    obtain ⟨xs, h1, h2, h3⟩ := mm a _ h
    have hl : i < xs.length := by rw [← Paired.length h3]; simpa using hi
    obtain ⟨_, _, _, es, ep, e1, e2, _⟩ := id h2
    obtain ⟨en, e3, e4⟩ := (h2.ent e1).2 i _ (List.getElem?_eq_getElem hl)
    exact ⟨h1, es, ep, en, _, e1, e3, e4⟩
  yld := fun i M H x H' ds _ mm ⟨kvs, h, e⟩ _ ⟨eH, es, ep, en, e1, e2, r⟩ => by
    subst e eH
    obtain ⟨xs, h1, h2, h3⟩ := mm a _ h
    obtain ⟨hs, hen⟩ := h2.ent e1
    have hl : i < xs.length := by rw [← hs]; exact (Array.getElem?_eq_some_iff.mp e2).1
    obtain ⟨en', e3, e4⟩ := hen i _ (List.getElem?_eq_getElem hl)
    rw [e2] at e3
    cases e3
    obtain ⟨kv, e5, e6⟩ := KDs_at h3 (List.getElem?_eq_getElem hl)
    refine ⟨TS.rfl', mm, standD kv.1, by rw [List.getElem?_map, e5]; rfl, ?_⟩
    have ex : x = .ref (xs[i]).2.1 := by
      have r2 : RelV (.ref (xs[i]).2.1) en.key := e4
      exact r.inj r2
    rw [ex]
    exact e6.2.1
  stop := fun i M H ds _ mm ⟨kvs, h, e⟩ hi => by
    subst e
    obtain ⟨xs, h1, h2, h3⟩ := mm a _ h
    obtain ⟨_, _, _, es, ep, e1, e2, _⟩ := id h2
    refine ⟨h1, es, ep, e1, ?_⟩
    rw [(h2.ent e1).1, ← Paired.length h3]
    simpa using hi
theorem di_keys (he : DE X e te) : DI X tg e (dIK te) := by
  refine ⟨fun pins s σ H R I ⟨Γ, M, Q, ee, mm, h, f⟩ => ?_⟩
  refine thn (he.run pins s σ H (fun v H1 => ∃ x M1, T X.K H1 v x ∧ TS H H1 ∧ MOk X.prog X.w X.K M1 H1 ∧ _) I ⟨Γ, M, _, ee, mm, h, fun x M1 v H1 q t1 m1 r1 => ⟨x, M1, r1, t1, m1, q⟩⟩) fun u s1 ⟨v, H1, I1, rx, x, M1, r1, t1, m1, q1⟩ => ?_
  cases x with
  | obj a =>
    simp only [rIK] at q1
    split at q1
    · rename_i o kvs hd
      rw [r1.obj_inv] at rx
      cases rx
      obtain ⟨xs, h1, h2, h3⟩ := m1 a _ hd
      obtain ⟨_, hg, ex, es, ep, e1, e2, _⟩ := id h2
      exact iter_keys hg (ext_at I1 h1) ex e1 (pi_one (tk := s1.toks) I1 _ (turn_stands _ e1) ⟨_, Heap.get?_push_size _ rfl, rfl, rfl⟩ (f _ M1 _ H1 q1 t1 m1 it_keys))
    · exact q1.elim
  | _ => exact q1.elim
/-- range(n) -/
def dIR (tr : DTA) : DTI := fun Γ M R => tr Γ M fun ds M1 => match ds with
  | [.int j] => -(2 ^ 62) ≤ j ∧ j < 2 ^ 62 ∧ R (srcC ((List.range j.toNat).map fun (i : Nat) => D.int i)) M1
  | _ => False
theorem di_range (hg : Gl X "range") (hm : X.mg "range" = none) (ha : DA X [e] tr) (hs : starEach [e] X.env = [(false, eval e X.env)] := by rfl) : DI X tg (.Call (.Name "range" p) [e] [] pos) (dIR tr) :=
  pi_imp (pi_range1 hg hm ha hs) fun σ H R ⟨Γ, M, Q, ee, mm, h, f⟩ => ⟨Γ, M, _, ee, mm, h, fun ds M1 vs H1 q t1 m1 r1 => by
    split at q
    · rename_i j
      obtain ⟨v, rfl, tv⟩ := Ts.one r1
      rw [tv.int_inv]
      refine ⟨j, rfl, q.1, q.2.1, f _ M1 _ H1 q.2.2 t1 m1 ⟨fun i M H ds _ mm e hi => ?_, fun i M H x H' ds _ mm e hi ⟨e1, e2⟩ => ?_, fun i M H ds _ mm e hi => ?_⟩⟩
      · rw [show ds = _ from e, List.length_map, List.length_range] at hi
        exact hi
      · subst e1
        rw [show ds = _ from e, List.length_map, List.length_range] at hi
        refine ⟨TS.rfl', mm, .int (i : Nat), ?_, ?_⟩
        · rw [show ds = _ from e, List.getElem?_map, List.getElem?_range hi]
          rfl
        · rw [e2, Int.zero_add]
          exact .int _
      · rw [show ds = _ from e, List.length_map, List.length_range] at hi
        exact hi
    · exact q.elim⟩

/-! ### for -/
variable {sts : List Stmt} {as : D → Option Sets} {ti : DTI} {tb : DTS}
def dFor (ti : DTI) (as : D → Option Sets) (tb : DTS) : DTS := fun En Γ M => ti Γ M fun src M1 => ∃ (ds : List D) (W : Nat → Ge → Mm → Prop), (∀ i Γ' M', W i Γ' M' → src M' ds) ∧ W 0 Γ M1 ∧
  (∀ i d Γ' M', ds[i]? = some d → W i Γ' M' → ask (as d) fun sets => tb { En with nx := W (i + 1), ct := W (i + 1), bk := En.nx } (setG Γ' sets) M') ∧ ∀ Γ' M', W ds.length Γ' M' → En.nx Γ' M'
theorem ds_for (hp : PassesOwn (model X.prog X.w) X.A X.env X.xe) (hc : X.calm = true) (hi : DI X tg e ti) (hg : DG X tg as) (hb : DSs X sts tb) (hs : ∀ x, foldedSetIterable e X.env x = pure x := by intro _; rfl) : DS X (.For tg e sts [] pos) (dFor ti as tb) :=
  ps_imp (ps_for hp hc hi hg hb hs) fun Dn σ H ⟨Γ, M, En, ee, mm, h, f1, f2, f3, f4⟩ => ⟨Γ, M, _, ee, mm, h, fun src M1 J H1 q t1 m1 it => by
    obtain ⟨ds, W, hsrc, w0, turn, fin⟩ := q
    refine ⟨fun i m σ' H' => m = ds.length - i ∧ i ≤ ds.length ∧ ∃ Γ' M', W i Γ' M' ∧ TS H1 H' ∧ MOk X.prog X.w X.K M' H' ∧ EOk X.K H' σ' Γ', ⟨ds.length, by omega, by omega, Γ, M1, w0, TS.rfl', m1, ee.keep t1⟩, ?_⟩
    rintro i m σ' H' ⟨hm, hi, Γ', M', w', t', m', e'⟩
    by_cases hlt : i < ds.length
    · refine .inr ⟨it.go i M' H' ds t' m' (hsrc _ _ _ w') hlt, fun σ2 H2 => ∃ Γ2 M2, W (i + 1) Γ2 M2 ∧ TS H1 H2 ∧ MOk X.prog X.w X.K M2 H2 ∧ EOk X.K H2 σ2 Γ2, fun σ2 H2 z => ⟨ds.length - (i + 1), by omega, rfl, hlt, z⟩, fun x H2 y => ?_⟩
      obtain ⟨t2, m2, d, e1, r⟩ := it.yld i M' H' x H2 ds t' m' (hsrc _ _ _ w') hlt y
      obtain ⟨sets, e2, q⟩ := ask_ok (turn i d Γ' M' e1 w')
      refine ⟨d, sets, r, e2, fun vs hv => ?_⟩
      have tt : TS H1 H2 := t'.tr t2
      have nx : ∀ Γ3 M3 σ3 H3, W (i + 1) Γ3 M3 → TS H2 H3 → MOk X.prog X.w X.K M3 H3 → EOk X.K H3 σ3 Γ3 → ∃ Γ2 M2, W (i + 1) Γ2 M2 ∧ TS H1 H3 ∧ MOk X.prog X.w X.K M2 H3 ∧ EOk X.K H3 σ3 Γ2 :=
        fun Γ3 M3 σ3 H3 w3 t3 m3 e3 => ⟨Γ3, M3, w3, tt.tr t3, m3, e3⟩
      exact ⟨_, M', _, hv.env (e'.keep t2), m2, q, nx, fun d M' v H' a b c e => f2 d M' v H' a (t1.tr (tt.tr b)) c e, fun Γ' M' σ' H' a b c d => f1 Γ' M' σ' H' a (t1.tr (tt.tr b)) c d, nx⟩
    · have e : i = ds.length := by omega
      subst e
      exact .inl ⟨it.stop _ M' H' ds t' m' (hsrc _ _ _ w') (Nat.le_refl _), f1 _ _ _ _ (fin _ _ w') (t1.tr t') m' e'⟩⟩

/-! ### list comprehensions -/
def wipeG (Γ : Ge) : List Nat → Ge
  | [] => Γ
  | v :: vs => (wipeG Γ vs).set v none
theorem EOk.wipe {K : PySem.W.Frag} {H : Hp} {σ : L2.St} {Γ : Ge} (h : EOk K H σ Γ) : ∀ vs : List Nat, EOk K H (L2.wipe σ vs) (wipeG Γ vs)
  | [] => h
  | v :: vs => by
    unfold L2.wipe wipeG
    exact (EOk.wipe h vs).put v (by unfold EO; trivial)
theorem set_wipe {σ : L2.St} {i : Nat} {v : Option V} : ∀ {vs : List Nat}, i ∈ vs → L2.wipe (σ.set i v) vs = L2.wipe σ vs
  | [], h => nomatch h
  | j :: vs, h => by
    unfold L2.wipe
    by_cases e : i ∈ vs
    · rw [set_wipe e]
    · have ei : i = j := by
        obtain z | z := List.mem_cons.mp h
        · exact z
        · exact absurd z e
      subst ei
      clear h
      have key : ∀ (vs : List Nat), i ∉ vs → ((L2.wipe (σ.set i v) vs)).set i none = (L2.wipe σ vs).set i none := by
        intro vs
        induction vs with
        | nil => intro _; exact List.set_set _
        | cons k vs ih =>
          intro hn
          have hk : k ≠ i := fun z => hn (by rw [z]; exact List.mem_cons_self)
          unfold L2.wipe
          rw [List.set_comm _ _ hk, ih (fun z => hn (List.mem_cons_of_mem _ z)), List.set_comm _ _ (Ne.symm hk)]
      exact key vs e
theorem wipe_wipe {σ : L2.St} : ∀ (vs us : List Nat), (∀ i ∈ us, i ∈ vs) → L2.wipe (L2.wipe σ us) vs = L2.wipe σ vs
  | vs, [], _ => rfl
  | vs, u :: us, h => by
    show L2.wipe ((L2.wipe σ us).set u none) vs = _
    rw [set_wipe (h u List.mem_cons_self), wipe_wipe vs us fun i hi => h i (List.mem_cons_of_mem _ hi)]
theorem setV_wipe {K : PySem.W.Frag} {H : Hp} : ∀ {ws : List (Nat × V)} {sets : Sets} {σ : L2.St} {vs : List Nat}, SR K H ws sets → (∀ p ∈ sets, p.1 ∈ vs) → L2.wipe (setV σ ws) vs = L2.wipe σ vs
  | _, _, σ, vs, .nil, _ => rfl
  | p :: ws, q :: sets, σ, vs, .cons hk t, h => by
    show L2.wipe (setV (σ.set p.1 (some p.2)) ws) vs = _
    rw [setV_wipe t fun x hx => h x (List.mem_cons_of_mem _ hx), set_wipe]
    rw [hk.1]
    exact h q List.mem_cons_self
abbrev DTs (X : Cx) (ifs : List Expr) (t : DTT) : Prop := PTs X ifs (lT X.prog X.w X.K t)
def dYes : DTT := fun _ M Q => Q true M
theorem dts_nil : DTs X [] dYes := ⟨fun pins s σ H Q I ⟨Γ, M, Q', ee, mm, h, f⟩ => pts_nil.run pins s σ H Q I (f true M H h TS.rfl' mm)⟩
theorem dts_one {c : Expr} {t : DTT} (h : DT X c t) : DTs X [c] t := pts_one h
/-- a: where the new list stands; W: by the turn -/
def dLc (ti : DTI) (as : D → Option Sets) (tt : DTT) (te : DTE) (vs : List Nat) : DTE := fun Γ M Q => ti Γ M fun src M1 => ∀ a, M1 a = none → ∃ (ds : List D) (W : Nat → Mm → Prop), (∀ i M', W i M' → src M' ds) ∧ W 0 (mset M1 a (.lst [])) ∧
  (∀ i d M', ds[i]? = some d → W i M' → ask (as d) fun sets => (∀ p ∈ sets, p.1 ∈ vs) ∧ tt (setG (wipeG Γ vs) sets) M' fun b M2 => if b = true then te (setG (wipeG Γ vs) sets) M2 fun y M3 => match M3 a with
      | some (.lst acc) => acc.length < sizeLine ∧ W (i + 1) (mset M3 a (.lst (acc ++ [y])))
      | _ => False
    else W (i + 1) M2) ∧ ∀ M', W ds.length M' → Q (.obj a) M'
variable {tt : DTT} {iter elt : Expr} {ifs : List Expr} {scope : Scope} {own : List (Str × Nat)}
theorem l_lc {P : Program} {w : World} {K : PySem.W.Frag} {vs : List Nat} {σ : L2.St} {H : Hp} {R : VK} (h : lE P w K (dLc ti as tt te vs) σ H R) : tLc (lI P w K ti) (lG K as) (lT P w K tt) (lE P w K te) vs σ H R := by
  obtain ⟨Γ, M, Q, ee, mm, h, f⟩ := h
  refine ⟨Γ, M, _, ee, mm, h, fun src M1 J H1 q t1 m1 it a ha => ?_⟩
  obtain ⟨ds, W, hsrc, w0, turn, fin⟩ := q a (m1.free ha)
  refine ⟨fun i m H' => m = ds.length - i ∧ i ≤ ds.length ∧ ∃ M', W i M' ∧ TS H1 H' ∧ MOk P w K M' H', ⟨ds.length, by omega, by omega, _, w0, TS.new ha, m1.addL ha .nil⟩, ?_⟩
  rintro i m H' ⟨hm, hi, M', w', t', m'⟩
  by_cases hlt : i < ds.length
  · refine .inr ⟨it.go i M' H' ds t' m' (hsrc _ _ w') hlt, fun H2 => ∃ M2, W (i + 1) M2 ∧ TS H1 H2 ∧ MOk P w K M2 H2, fun H2 z => ⟨ds.length - (i + 1), by omega, rfl, hlt, z⟩, fun x H2 y => ?_⟩
    obtain ⟨t2, m2, d, e1, r⟩ := it.yld i M' H' x H2 ds t' m' (hsrc _ _ w') hlt y
    obtain ⟨sets, e2, hin, q⟩ := ask_ok (turn i d M' e1 w')
    refine ⟨d, sets, r, e2, fun ws hv => ⟨?_, ?_⟩⟩
    · rw [setV_wipe hv hin]
      exact wipe_wipe vs vs fun _ z => z
    · have e0 : EOk K H2 (setV (L2.wipe σ vs) ws) (setG (wipeG Γ vs) sets) := hv.env ((ee.keep (t1.tr (t'.tr t2))).wipe vs)
      refine ⟨_, M', _, e0, m2, q, fun b M3 H3 q3 t3 m3 => ?_⟩
      cases b with
      | false =>
        rw [if_neg Bool.false_ne_true] at q3 ⊢
        exact ⟨M3, q3, t'.tr (t2.tr t3), m3⟩
      | true =>
        rw [if_pos rfl] at q3 ⊢
        refine ⟨_, M3, _, e0.keep t3, m3, q3, fun y M4 v4 H4 q4 t4 m4 r4 => ?_⟩
        split at q4
        · rename_i acc ho
          obtain ⟨xs, h1, h2⟩ := m4.lst ho
          exact ⟨xs, h1, by rw [h2.len]; exact q4.1, _, q4.2, t'.tr (t2.tr (t3.tr (t4.tr (m4.tso ho)))), m4.setL ho (h2.app (.cons r4 .nil))⟩
        · exact q4.elim
  · have e : i = ds.length := by omega
    subst e
    exact .inl ⟨it.stop _ M' H' ds t' m' (hsrc _ _ w') (Nat.le_refl _), f _ M' _ H' (fin _ w') (t1.tr t') m' (.obj a)⟩
theorem de_lc (hc : X.calm = true) (hN : X.N.Nodup) (hi : DI X tg iter ti) (ok : BlkOk X.N X.env.scope scope own)
    (hg : ∀ (s : Shared) (H : Hp) (C : Addr) (cl : List (Str × Addr)) (fp : List Addr), DG (X.blk s H scope (compEnvC scope cl C X.env) fp) tg as) (ht : ∀ (s : Shared) (H : Hp) (C : Addr) (cl : List (Str × Addr)) (fp : List Addr), DTs (X.blk s H scope (compEnvC scope cl C X.env) fp) ifs tt)
    (he : ∀ (s : Shared) (H : Hp) (C : Addr) (cl : List (Str × Addr)) (fp : List Addr), DE (X.blk s H scope (compEnvC scope cl C X.env) fp) elt te) (hs : ∀ x, foldedSetIterable iter X.env x = pure x := by intro _; rfl) :
    DE X (.ListComp elt [⟨tg, iter, ifs, 0⟩] scope pos) (dLc ti as tt te (own.map (·.2))) := pe_imp (pe_lc hc hN hi ok hg ht he hs) fun _ _ _ h => l_lc h
theorem ds_setLc {i : Nat} {y : Str} {py spos : Pos} (hc : X.calm = true) (hN : X.N.Nodup) (hy : X.N[i]? = some y) (hyl : X.env.scope.names.lookup y = some .local)
    (hsw : swapsWith (.ListComp elt [⟨tg, iter, ifs, 0⟩] scope pos) (some (.Name y py)) spos.line X.env = pure true) (hi : DI X tg iter ti) (ok : BlkOk X.N X.env.scope scope own)
    (hg : ∀ (s : Shared) (H : Hp) (C : Addr) (cl : List (Str × Addr)) (fp : List Addr), DG (X.blk s H scope (compEnvC scope cl C X.env) fp) tg as) (ht : ∀ (s : Shared) (H : Hp) (C : Addr) (cl : List (Str × Addr)) (fp : List Addr), DTs (X.blk s H scope (compEnvC scope cl C X.env) fp) ifs tt)
    (he : ∀ (s : Shared) (H : Hp) (C : Addr) (cl : List (Str × Addr)) (fp : List Addr), DE (X.blk s H scope (compEnvC scope cl C X.env) fp) elt te) (hs : ∀ x, foldedSetIterable iter X.env x = pure x := by intro _; rfl) :
    DS X (.Assign [.Name y py] (.ListComp elt [⟨tg, iter, ifs, 0⟩] scope pos) spos) (dSet i (dLc ti as tt te (own.map (·.2)))) :=
  ps_imp (ps_setLc hc hN hy hyl hsw hi ok hg ht he hs) fun Dn σ H ⟨Γ, M, En, ee, mm, h, f1, f2, f3, f4⟩ => l_lc ⟨Γ, M, _, ee, mm, h, fun d M1 v H1 q t1 m1 r1 => f1 _ _ _ _ q t1 m1 ((ee.keep t1).set r1)⟩

/-! ### defs -/
abbrev DEX := Addr → Mm → Prop
abbrev DSp := List D → Mm → QD → DEX → Prop
def lSp (P : Program) (w : World) (K : PySem.W.Frag) (sp : DSp) : Sp := fun vs H R E => ∃ ds M Q EX, Ts K H vs ds ∧ MOk P w K M H ∧ sp ds M Q EX ∧ (∀ d M' v H', Q d M' → TS H H' → MOk P w K M' H' → T K H' v d → R v H') ∧
  ∀ C M' H', EX C M' → TS H H' → MOk P w K M' H' → E (.ref C) none H'
abbrev DFn (P : Program) (w : World) (K : PySem.W.Frag) (mg : Str → Option Value) (base : Heap) (CX : CXT) (k : Nat) (f : Addr) (fd : FuncData) (ps : List Str) (sp : DSp) : Prop := FnOk P w K mg base CX k f fd ps (lSp P w K sp)
def dFn (sp : DSp) (tr : DTA) : DTE := fun Γ M Q => tr Γ M fun ds M1 => sp ds M1 Q fun _ _ => False
theorem de_fn {CX : CXT} {k : Nat} {f : Addr} {fd : FuncData} {ps : List Str} {sp : DSp} {x : Str} (F : DFn X.prog X.w X.K X.mg X.base CX k f fd ps sp) (hr : Room k X.A) (hg : Gl X x) (hm : X.mg x = some (.ref f)) (hk : PySem.W.keepIn X.K (.ref f) = true)
    (hb : Binds X.K fd ps []) (hx : Passes CX X E0) (ha : DA X (e :: es) tr) (hdb : (x == ("__debug__" : Str)) = false := by decide) (he : starEach (e :: es) X.env = (false, eval e X.env) :: starEach es X.env := by rfl)
    (hpl : (backTo pos (starEach es X.env)).any (·.1) = false := by rfl) : DE X (.Call (.Name x p) (e :: es) [] pos) (dFn sp tr) :=
  pe_imp (pe_call F hr hg hm hk hb .nil hx ha hdb he hpl) fun σ H R ⟨Γ, M, Q, ee, mm, h, f⟩ => ⟨Γ, M, _, ee, mm, h, fun ds M1 vs H1 q t1 m1 r1 =>
    ⟨ds, M1, Q, _, by rw [List.append_nil]; exact r1, m1, q, fun d M' v H' a b c e => f d M' v H' a (t1.tr b) c e, fun _ _ _ z => z.elim⟩⟩
def startD (N : List Str) (ds : List D) : Ge := ds.map some ++ List.replicate (N.length - ds.length) none
theorem start_ok {K : PySem.W.Frag} {H : Hp} {N : List Str} {vs : List V} {ds : List D} (t : Ts K H vs ds) : EOk K H (L2.start N vs) (startD N ds) := by
  unfold L2.start startD
  rw [t.len]
  have rep : ∀ n : Nat, EOk K H (List.replicate n none) (List.replicate n none) := by
    intro n
    induction n with
    | zero => exact .nil
    | succ n ih => exact .cons (by unfold EO; trivial) ih
  generalize N.length - ds.length = n
  have go : ∀ (vs : List V) (ds : List D), Ts K H vs ds → EOk K H (vs.map some ++ List.replicate n none) (ds.map some ++ List.replicate n none) := by
    intro us ds t
    induction us generalizing ds with
    | nil => cases t; exact rep n
    | cons v us ih =>
      cases t with
      | cons a b => exact .cons a (ih _ b)
  exact go vs ds t
/-- an answer, where less may be known behind it -/
def fin (Q : QD) : QD := fun d M' => ∃ M0, Le M0 M' ∧ Q d M0
theorem fin.same {Q : QD} {d : D} {M : Mm} (h : Q d M) : fin Q d M := ⟨M, Le.rfl', h⟩
section
variable {P : Program} {w : World} {K : PySem.W.Frag} {mg : Str → Option Value} {base : Heap}
theorem dfn_ok {x qual : Str} {st : Stmt} {f : Addr} {fd : FuncData} {N ps : List Str} {k : Nat} {sp : DSp} (F : Fun K x qual st f fd) (S : FnScope N ps (defScope st)) (len : ∀ ds M Q EX, sp ds M Q EX → ds.length = ps.length)
    (hbody : ∀ (cdv : Value) (A : Around) (outer : List Env) (s : Shared) (H : Hp) (E : XK), Room k (A.deeper (envOfC qual (defScope st) s.heap.objs.size f cdv)) →
      ∃ t : DTS, DSs (cxOf CX0 P w K mg base N qual (defScope st) f cdv A outer s H E).nox (defBody st) t ∧ ∀ ds M Q EX, sp ds M Q EX → t { nx := fun _ M' => fin Q .non M', rt := fin Q } (startD N ds) M) : DFn P w K mg base CX0 (k + 1) f fd ps sp := by
  refine F.ok S (fun vs H R E ⟨ds, M, Q, EX, t, mm, h, _⟩ => by rw [t.len]; exact len _ _ _ _ h) (fun cdv A outer s H vs R E hr ⟨ds, M, Q, EX, tt, mm, h, f1, f2⟩ => ?_)
  obtain ⟨t, ht, hq⟩ := hbody cdv A outer s H E hr
  refine ⟨_, ht, startD N ds, M, _, start_ok tt, mm, hq ds M Q EX h, fun Γ' M' σ' H' ⟨M0, l0, q⟩ t1 m1 e1 => ?_, fun d M' v H' ⟨M0, l0, q⟩ t1 m1 r1 => ?_, fun _ _ _ _ z => z.elim, fun _ _ _ _ z => z.elim⟩
  · exact f1 _ M0 _ H' q t1 (m1.weak l0) .non
  · exact f1 _ M0 _ H' q t1 (m1.weak l0) r1
end
end
end L3

/-! L3: callees and constants as one fact each, chains, new dicts, comprehensions of two fors. -/
namespace L3
open PySem PySem.Spec PyProof.Rows L2

/-- the def x of the top, by its promise -/
structure Cal (P : Program) (w : World) (K : PySem.W.Frag) (mg : Str → Option Value) (base : Heap) (CX : CXT) (x : Str) (k : Nat) (ps : List Str) (sp : DSp) : Prop where
  ex : ∃ f fd, DFn P w K mg base CX k f fd ps sp ∧ mg x = some (.ref f) ∧ PySem.W.keepIn K (.ref f) = true ∧ Binds K fd ps []
/-- a constant of the top -/
structure Con (mg : Str → Option Value) (K : PySem.W.Frag) (x : Str) (d : D) : Prop where
  ex : ∃ u v, mg x = some u ∧ RelV v u ∧ ∀ H, T K H v d
section
variable {X : Cx} {a b c e : Expr} {es : List Expr} {pos p : Pos} {ta tb tc : DTE} {tr : DTA}
theorem de_cal {CX : CXT} {k : Nat} {ps : List Str} {sp : DSp} {x : Str} (C : Cal X.prog X.w X.K X.mg X.base CX x k ps sp) (hr : Room k X.A) (hg : Gl X x) (hx : Passes CX X E0) (ha : DA X (e :: es) tr)
    (hdb : (x == ("__debug__" : Str)) = false := by decide) (he : starEach (e :: es) X.env = (false, eval e X.env) :: starEach es X.env := by rfl) (hpl : (backTo pos (starEach es X.env)).any (·.1) = false := by rfl) : DE X (.Call (.Name x p) (e :: es) [] pos) (dFn sp tr) := by
  obtain ⟨f, fd, F, hm, hk, hb⟩ := C.ex
  exact de_fn F hr hg hm hk hb hx ha hdb he hpl
theorem de_con {x : Str} {d : D} (C : Con X.mg X.K x d) (hg : Gl X x) (hd : (x == ("__debug__" : Str)) = false := by decide) : DE X (.Name x pos) (dC d) := by
  obtain ⟨u, v, hm, r, t⟩ := C.ex
  exact de_c (pe_glob hg hm r hd) t
theorem de_ch {op op' : CmpOp} {r r' : DR2} (ho : DOp X (compareOp op) r) (ho' : DOp X (compareOp op') r') (ha : DE X a ta) (hb : DE X b tb) (hc : DE X c tc)
    (hm : lastMarks [op, op'] [b, c] = false := by with_unfolding_all rfl) : DE X (.Compare a [op, op'] [b, c] pos) (dChain r r' ta tb tc) :=
  pe_imp (pe_chain ho ho' ha hb hc hm) fun _ _ _ h => l_chain h
theorem dt_ch {op op' : CmpOp} {r r' : DR2} (ho : DOp X (compareOp op) r) (ho' : DOp X (compareOp op') r') (ha : DE X a ta) (hb : DE X b tb) (hc : DE X c tc)
    (hm : lastMarks [op, op'] [b, c] = false := by with_unfolding_all rfl) : DT X (.Compare a [op, op'] [b, c] pos) (dB (dChain r r' ta tb tc)) :=
  pt_imp (pt_chain ho ho' ha hb hc hm) fun σ H R ⟨Γ, M, Q, ee, mm, h, f⟩ => by
    refine l_chain ⟨Γ, M, _, ee, mm, h, fun d M1 v H1 q t1 m1 r1 => ?_⟩
    obtain ⟨b, rfl, q⟩ := dB_ok q
    exact ⟨b, r1.bl_inv, f b M1 H1 q t1 m1⟩
/-- {}, by stands -/
def newDict : Obj := { cls := .type "dict", data := .dict #[] }
def dNew : DTE := fun _ M Q => ∀ p, M p = none → Q (.obj p) (mset M p (.dct newDict []))
theorem new_obj {P : Program} {w : World} {p : Addr} (h : (p == sysModules) = false) : DObj P w p newDict [] := ⟨Nat.zero_le _, h, ⟨rfl, rfl, rfl⟩, #[], 0, rfl, rfl, List.nodup_nil⟩
theorem laid_new {pins : List (Addr × Obj)} {σ : L2.St} {H : Hp} {s : Shared} (I : Inv X pins σ H s) (t : Nat) : Inv X pins σ (upd H s.heap.objs.size (exo s.heap.objs.size newDict)) { s with heap := s.heap.push newDict, toks := t } :=
  I.laid (a := s.heap.objs.size) (fun _ _ => Heap.get?_push_of_some _) (Nat.le_refl _) (exo_ok (Heap.get?_push_size _ rfl))
theorem new_ne {pins : List (Addr × Obj)} {σ : L2.St} {H : Hp} {s : Shared} (I : Inv X pins σ H s) : (s.heap.objs.size == sysModules) = false := beq_eq_false_iff_ne.mpr (Ne.symm (Nat.ne_of_lt I.big))
theorem de_new : DE X (.Dict [] [] pos) dNew := ⟨fun pins s σ H R I ⟨Γ, M, Q, ee, mm, h, f⟩ => by
  have hf : H s.heap.objs.size = none := I.hok.fresh Nat.le.refl
  exact wpAny_Dict_empty ⟨.ref s.heap.objs.size, _, laid_new I _, rfl, f _ _ _ _ (h _ (mm.free hf)) (TS.new hf) (mm.add hf ⟨[], upd_same, new_obj (new_ne I), .nil⟩) (.obj _)⟩⟩

/-! ### two fors -/
variable {tg elt iter tg1 iter1 : Expr} {ifs ifs1 : List Expr} {scope : Scope} {own : List (Str × Nat)} {vs1 : List Nat} {ti ti1 : DTI} {as as1 : D → Option Sets} {tt tt1 : DTT} {te : DTE}
/-- both walks over what does not change -/
def dLc2 (ti : DTI) (as : D → Option Sets) (tt : DTT) (ti1 : DTI) (as1 : D → Option Sets) (tt1 : DTT) (te : DTE) (vs vs1 : List Nat) : DTE := fun Γ M Q => ti Γ M fun src M1 => ∀ a, M1 a = none → ∃ (ds : List D) (W : Nat → Mm → Prop), (∀ i M', W i M' → src M' ds) ∧ W 0 (mset M1 a (.lst [])) ∧
  (∀ i d M', ds[i]? = some d → W i M' → ask (as d) fun sets => (∀ p ∈ sets, p.1 ∈ vs) ∧ tt (setG (wipeG Γ vs) sets) M' fun b M2 => if b = true then
      ti1 (setG (wipeG Γ vs) sets) M2 fun src1 M3 => ∃ (es : List D) (V1 : Nat → Mm → Prop), (∀ j M', V1 j M' → src1 M' es) ∧ V1 0 M3 ∧
        (∀ j e M', es[j]? = some e → V1 j M' → ask (as1 e) fun sets1 => (∀ p ∈ sets1, p.1 ∈ vs1) ∧ tt1 (setG (wipeG (setG (wipeG Γ vs) sets) vs1) sets1) M' fun b M4 => if b = true then
          te (setG (wipeG (setG (wipeG Γ vs) sets) vs1) sets1) M4 fun y M5 => match M5 a with
            | some (.lst acc) => acc.length < sizeLine ∧ V1 (j + 1) (mset M5 a (.lst (acc ++ [y])))
            | _ => False
          else V1 (j + 1) M4) ∧ ∀ M', V1 es.length M' → W (i + 1) M'
    else W (i + 1) M2) ∧ ∀ M', W ds.length M' → Q (.obj a) M'
theorem l_lc2 {P : Program} {w : World} {K : PySem.W.Frag} {vs : List Nat} {σ : L2.St} {H : Hp} {R : VK} (h : lE P w K (dLc2 ti as tt ti1 as1 tt1 te vs vs1) σ H R) :
    tLc2 (lI P w K ti) (lG K as) (lT P w K tt) (lI P w K ti1) (lG K as1) (lT P w K tt1) (lE P w K te) vs vs1 σ H R := by
  obtain ⟨Γ, M, Q, ee, mm, h, f⟩ := h
  refine ⟨Γ, M, _, ee, mm, h, fun src M1 J H1 q t1 m1 it a ha => ?_⟩
  obtain ⟨ds, W, hsrc, w0, turn, fin⟩ := q a (m1.free ha)
  refine ⟨fun i m H' => m = ds.length - i ∧ i ≤ ds.length ∧ ∃ M', W i M' ∧ TS H1 H' ∧ MOk P w K M' H', ⟨ds.length, by omega, by omega, _, w0, TS.new ha, m1.addL ha .nil⟩, ?_⟩
  rintro i m H' ⟨hm, hi, M', w', t', m'⟩
  by_cases hlt : i < ds.length
  · refine .inr ⟨it.go i M' H' ds t' m' (hsrc _ _ w') hlt, fun H2 => ∃ M2, W (i + 1) M2 ∧ TS H1 H2 ∧ MOk P w K M2 H2, fun H2 z => ⟨ds.length - (i + 1), by omega, rfl, hlt, z⟩, fun x H2 y => ?_⟩
    obtain ⟨t2, m2, d, e1, r⟩ := it.yld i M' H' x H2 ds t' m' (hsrc _ _ w') hlt y
    obtain ⟨sets, e2, hin, q⟩ := ask_ok (turn i d M' e1 w')
    refine ⟨d, sets, r, e2, fun ws hv => ⟨?_, ?_⟩⟩
    · rw [setV_wipe hv hin]
      exact wipe_wipe vs vs fun _ z => z
    · have e0 : EOk K H2 (setV (L2.wipe σ vs) ws) (setG (wipeG Γ vs) sets) := hv.env ((ee.keep (t1.tr (t'.tr t2))).wipe vs)
      refine ⟨_, M', _, e0, m2, q, fun b M3 H3 q3 t3 m3 => ?_⟩
      cases b with
      | false =>
        rw [if_neg Bool.false_ne_true] at q3 ⊢
        exact ⟨M3, q3, t'.tr (t2.tr t3), m3⟩
      | true =>
        rw [if_pos rfl] at q3 ⊢
        refine ⟨_, M3, _, e0.keep t3, m3, q3, fun src1 M4 J1 H4 q4 t4 m4 it1 => ?_⟩
        obtain ⟨es, V1, hsrc1, v0, turn1, fin1⟩ := q4
        have T4 : TS H1 H4 := t'.tr (t2.tr (t3.tr t4))
        refine ⟨fun j k H' => k = es.length - j ∧ j ≤ es.length ∧ ∃ M', V1 j M' ∧ TS H4 H' ∧ MOk P w K M' H', ⟨es.length, by omega, by omega, _, v0, TS.rfl', m4⟩, ?_⟩
        rintro j k H5 ⟨hk, hj, M5, w5, t5, m5⟩
        by_cases hlt1 : j < es.length
        · refine .inr ⟨it1.go j M5 H5 es t5 m5 (hsrc1 _ _ w5) hlt1, fun H2 => ∃ M2, V1 (j + 1) M2 ∧ TS H4 H2 ∧ MOk P w K M2 H2, fun H2 z => ⟨es.length - (j + 1), by omega, rfl, hlt1, z⟩, fun x1 H6 y1 => ?_⟩
          obtain ⟨t6, m6, d1, g1, r1⟩ := it1.yld j M5 H5 x1 H6 es t5 m5 (hsrc1 _ _ w5) hlt1 y1
          obtain ⟨sets1, g2, hin1, q6⟩ := ask_ok (turn1 j d1 M5 g1 w5)
          refine ⟨d1, sets1, r1, g2, fun ws1 hv1 => ⟨?_, ?_⟩⟩
          · rw [setV_wipe hv1 hin1]
            exact wipe_wipe vs1 vs1 fun _ z => z
          · have e6 := hv1.env ((e0.keep (t3.tr (t4.tr (t5.tr t6)))).wipe vs1)
            refine ⟨_, M5, _, e6, m6, q6, fun b M7 H7 q7 t7 m7 => ?_⟩
            cases b with
            | false =>
              rw [if_neg Bool.false_ne_true] at q7 ⊢
              exact ⟨M7, q7, t5.tr (t6.tr t7), m7⟩
            | true =>
              rw [if_pos rfl] at q7 ⊢
              refine ⟨_, M7, _, e6.keep t7, m7, q7, fun y M8 v8 H8 q8 t8 m8 r8 => ?_⟩
              split at q8
              · rename_i acc ho
                obtain ⟨xs, h1, h2⟩ := m8.lst ho
                exact ⟨xs, h1, by rw [h2.len]; exact q8.1, _, q8.2, t5.tr (t6.tr (t7.tr (t8.tr (m8.tso ho)))), m8.setL ho (h2.app (.cons r8 .nil))⟩
              · exact q8.elim
        · have e : j = es.length := by omega
          subst e
          exact .inl ⟨it1.stop _ M5 H5 es t5 m5 (hsrc1 _ _ w5) (Nat.le_refl _), M5, fin1 _ w5, T4.tr t5, m5⟩
  · have e : i = ds.length := by omega
    subst e
    exact .inl ⟨it.stop _ M' H' ds t' m' (hsrc _ _ w') (Nat.le_refl _), f _ M' _ H' (fin _ w') (t1.tr t') m' (.obj a)⟩
theorem de_lc2 (hc : X.calm = true) (hN : X.N.Nodup) (hi : DI X tg iter ti) (ok : BlkOk X.N X.env.scope scope own) (hv : ∀ i ∈ vs1, i ∈ own.map (·.2))
    (hg : ∀ (s : Shared) (H : Hp) (C : Addr) (cl : List (Str × Addr)) (fp : List Addr), DG (X.blk s H scope (compEnvC scope cl C X.env) fp) tg as)
    (ht : ∀ (s : Shared) (H : Hp) (C : Addr) (cl : List (Str × Addr)) (fp : List Addr), DTs (X.blk s H scope (compEnvC scope cl C X.env) fp) ifs tt)
    (hi1 : ∀ (s : Shared) (H : Hp) (C : Addr) (cl : List (Str × Addr)) (fp : List Addr), DI (X.blk s H scope (compEnvC scope cl C X.env) fp) tg1 iter1 ti1)
    (hg1 : ∀ (s : Shared) (H : Hp) (C : Addr) (cl : List (Str × Addr)) (fp : List Addr), DG (X.blk s H scope (compEnvC scope cl C X.env) fp) tg1 as1)
    (ht1 : ∀ (s : Shared) (H : Hp) (C : Addr) (cl : List (Str × Addr)) (fp : List Addr), DTs (X.blk s H scope (compEnvC scope cl C X.env) fp) ifs1 tt1)
    (he : ∀ (s : Shared) (H : Hp) (C : Addr) (cl : List (Str × Addr)) (fp : List Addr), DE (X.blk s H scope (compEnvC scope cl C X.env) fp) elt te)
    (hs : ∀ x, foldedSetIterable iter X.env x = pure x := by intro _; rfl) (hs1 : ∀ env x, foldedSetIterable iter1 env x = pure x := by intro _ _; rfl) :
    DE X (.ListComp elt [⟨tg, iter, ifs, 0⟩, ⟨tg1, iter1, ifs1, 0⟩] scope pos) (dLc2 ti as tt ti1 as1 tt1 te (own.map (·.2)) vs1) := pe_imp (pe_lc2 hc hN hi ok hv hg ht hi1 hg1 ht1 he hs hs1) fun _ _ _ h => l_lc2 h
end
end L3

/-! {s: v for s in ..}, the keys stands. -/
namespace L3
open PySem PySem.Spec PyProof.Rows L2
abbrev StR := Addr → V → V → Hp → (Hp → Prop) → Prop
/-- what a new key's laying asks -/
def PStR (P : Program) (w : World) (K : PySem.W.Frag) (A : Around) (st : StR) : Prop := ∀ (X : Cx), X.prog = P → X.w = w → X.K = K → X.A = A → ∀ (pins : List (Addr × Obj)) (σ : L2.St) (H : Hp) (s : Shared) (D : Addr) (y z : V) (u r : Value) (Q : Hp → Prop) (E : Value → Shared → Prop),
  Inv X pins σ H s → RelV y u → RelV z r → st D y z H Q → wpAny (model X.prog X.w) X.A (dictSet D u r) (fun _ s' => ∃ H', Inv X pins σ H' s' ∧ Q H') E s
/-- D: the new dict -/
def tDcS (st : StR) (wi : TI) (g : TG) (tt : TT) (tk tv : TE) (vs : List Nat) : TE := fun σ H Q => wi σ H fun J H1 => ∀ D, H1 D = none → D ≠ sysModules → ∃ W : Nat → Nat → Hp → Prop, (∃ m, W 0 m (upd H1 D (exo D newDict))) ∧ ∀ i m H, W i m H → (J.stop i H ∧ Q (.ref D) H) ∨ (J.go i H ∧ ∃ Nx : Hp → Prop, (∀ H', Nx H' → ∃ m', m' < m ∧ W (i + 1) m' H') ∧ ∀ x H', J.yld i H x H' → g x (wipe σ vs) H' fun σ2 H2 => wipe σ2 vs = wipe σ vs ∧ tt σ2 H2 fun b H3 =>
    if b = true then tk σ2 H3 fun y H4 => tv σ2 H4 fun z H5 => st D y z H5 Nx else Nx H3)
section
variable {X : Cx} {kx vx tg iter : Expr} {ifs : List Expr} {scope : Scope} {own : List (Str × Nat)} {pos : Pos} {wi : TI} {g : TG} {tt : TT} {tk tv : TE} {st : StR}
/-- the whole comprehension; what is left: the name's use, where there is one -/
theorem run_stands {pins : List (Addr × Obj)} {s : Shared} {σ : L2.St} {H : Hp} {Q : VK} {p0 : Pos} {use : Option (Value → Sem Unit)} {Qf : Value → Shared → Prop} (hc : X.calm = true) (hN : X.N.Nodup) (ps : PStR X.prog X.w X.K X.A st) (I : Inv X pins σ H s) (hi : PI X tg iter wi) (ok : BlkOk X.N X.env.scope scope own)
    (hg : ∀ (s : Shared) (H : Hp) (C : Addr) (cl : List (Str × Addr)) (fp : List Addr), PG (X.blk s H scope (compEnvC scope cl C X.env) fp) tg g) (ht : ∀ (s : Shared) (H : Hp) (C : Addr) (cl : List (Str × Addr)) (fp : List Addr), PTs (X.blk s H scope (compEnvC scope cl C X.env) fp) ifs tt) (hk : ∀ (s : Shared) (H : Hp) (C : Addr) (cl : List (Str × Addr)) (fp : List Addr), PE (X.blk s H scope (compEnvC scope cl C X.env) fp) kx tk) (he : ∀ (s : Shared) (H : Hp) (C : Addr) (cl : List (Str × Addr)) (fp : List Addr), PE (X.blk s H scope (compEnvC scope cl C X.env) fp) vx tv)
    (hs : ∀ x, foldedSetIterable iter X.env x = pure x) (h : tDcS st wi g tt tk tv (own.map (·.2)) σ H Q)
    (fin : ∀ D C s' m H', Inv X pins σ H' s' → Q (.ref D) H' → s'.heap.Ns C m → FpOk X pins H' C → compPost (model X.prog X.w) X.A X.xe use Qf (.ref D) C (.ok .next) s') :
    wpAny (model X.prog X.w) X.A (comprehension (.DictComp kx vx [⟨tg, iter, ifs, 0⟩] scope pos) scope X.env p0 PySem.newDict false (eval iter X.env) use) Qf X.xe s := by
  refine wpAny_comprehension_free (use := use) rfl hs (closure_ok fun y hy e => I.ok.has _ (ok.free y hy e)) ok.kind (fun y hy e => by rw [← e]; exact ok.uniq y hy) (thn (hi.run pins s σ H _ I h) fun v1 s1 z => thn z fun v2 s2 ⟨it, fp, tn, J, H2, e, I2, U, t2, f2, q⟩ => ?_)
  subst e
  refine wpAny_newObj_type (newEnv_comp ?_); obtain ⟨W, ⟨m0, w0⟩, turn⟩ := q s2.heap.objs.size (I2.hok.fresh (Nat.le_refl _)) (Ne.symm (Nat.ne_of_lt I2.big))
  generalize hD : s2.heap.objs.size = D at w0 turn ⊢
  -- the dict stands
  obtain ⟨sd, hsd⟩ : ∃ sd : Shared, sd = { s2 with heap := s2.heap.push L3.newDict } := ⟨_, rfl⟩
  have Id : Inv X pins σ (upd H2 D (exo D L3.newDict)) sd := by rw [hsd, ← hD]; exact laid_new I2 s2.toks
  have hph : sd.heap = s2.heap.push L3.newDict := by rw [hsd]
  have fd : ∀ b ∈ fp, FpOk X pins (upd H2 D (exo D L3.newDict)) b ∧ b < sd.heap.objs.size := fun b hb => by
    obtain ⟨ob, eb, _⟩ := U.obj _ _ t2 b hb
    have lt := Heap.lt_size eb
    refine ⟨⟨(upd_ne (by rw [← hD]; exact Nat.ne_of_lt lt)).trans (f2 b hb).1, (f2 b hb).2⟩, ?_⟩
    rw [hph, Heap.size_push]; exact Nat.lt_succ_of_lt lt
  have Ib := block_start Id ok hN fd
  have td : tn 0 sd.heap := U.keep _ _ _ t2 fun b _ o e => by rw [hph]; exact Heap.get?_push_of_some _ e
  generalize hcl : cellsFrom (sd.heap.objs.size + 1) scope.names (cloFrom X.env.cells scope.names []) = cl at Ib
  have pg := hg sd (upd H2 D (exo D L3.newDict)) sd.heap.objs.size cl fp; have pt := ht sd (upd H2 D (exo D L3.newDict)) sd.heap.objs.size cl fp; have pk := hk sd (upd H2 D (exo D L3.newDict)) sd.heap.objs.size cl fp; have pv := he sd (upd H2 D (exo D L3.newDict)) sd.heap.objs.size cl fp
  generalize hHd : upd H2 D (exo D L3.newDict) = Hd at *
  have go : codeAny (model X.prog X.w) X.A (.compStart (.DictComp kx vx [⟨tg, iter, ifs, 0⟩] scope pos) 0 (.ref it) (.ref D) (compEnvC scope cl sd.heap.objs.size X.env)) (compPost (model X.prog X.w) X.A X.xe use Qf (.ref D) sd.heap.objs.size) { sd with heap := pushCells (sd.heap.push { cls := .type "dict", data := .dict #[] }) scope.names } := by
    generalize hce : compEnvC scope cl sd.heap.objs.size X.env = ce at Ib pg pt pk pv ⊢
    have cloc : ce.locals = sd.heap.objs.size := by rw [← hce]; rfl
    generalize hsb : ({ sd with heap := pushCells (sd.heap.push { cls := .type "dict", data := .dict #[] }) scope.names } : Shared) = sb at Ib ⊢
    have tb : tn 0 sb.heap := U.keep _ _ _ td fun b _ o e => by rw [← hsb]; exact pushCells_keeps _ _ _ _ (Heap.get?_push_of_some _ e)
    have stays : ∀ {σ1 : L2.St} {H1 : Hp} {s1 : Shared}, Inv (X.blk sd Hd scope ce fp) [] σ1 H1 s1 → (∀ b ∈ fp, H1 b = none) → ∀ b ∈ fp, FpOk (X.blk sd Hd scope ce fp) [] H1 b := fun {_ _ _} J1 n1 b hb =>
      ⟨n1 b hb, (J1.ok.exf b hb).1, J1.ok.exfs b hb, .inl hb, fun x c e => (J1.ok.exf b hb).2 x c e, fun p hp => absurd (show p ∈ ([] : List (Addr × Obj)) ++ [] from hp) (by simp)⟩
    have run : codeAny (model X.prog X.w) X.A (.compLoop (.DictComp kx vx [⟨tg, iter, ifs, 0⟩] scope pos) 0 (.ref it) (.ref D) ce) (compPost (model X.prog X.w) X.A X.xe use Qf (.ref D) sd.heap.objs.size) sb := by
      refine compLoop_anyD (fun n s' => ∃ i H', Inv (X.blk sd Hd scope ce fp) [] (wipe σ (own.map (·.2))) H' s' ∧ tn i s'.heap ∧ (∀ b ∈ fp, H' b = none) ∧ W i n H') (fun n s5 ⟨i, H5, I5, t5, n5, w5⟩ => ?_) m0 ⟨0, Hd, Ib, tb, fun b hb => (fd b hb).1.1, w0⟩
      rcases turn i n H5 w5 with ⟨z, qq⟩ | ⟨z, Nx, less, step⟩
      · refine thnF (U.done (X.blk sd Hd scope ce fp) rfl rfl rfl hc i [] s5 _ H5 (fun _ _ => False) I5 (stays I5 n5) t5 z) fun r s6 ⟨e6, I6⟩ => ?_
        subst e6
        have out : Inv X pins σ H5 s6 := Id.call' (ch := fp) I6.os I6.base I6.hok I6.bare fun b hb => ⟨(fd b hb).1.2.2.2.1, (fd b hb).1.2.1, (fd b hb).1.2.2.2.2.1, (fd b hb).1.2.2.2.2.2⟩
        obtain ⟨m, hm, _⟩ := I6.loc
        have hm : s6.heap.Ns ce.locals m := hm
        have nC : H5 ce.locals = none := I6.free
        rw [cloc] at hm nC
        exact fin D _ s6 m H5 out qq hm (Id.fpOk (Nat.le_refl _) nC)
      · refine thnF (U.item (X.blk sd Hd scope ce fp) rfl rfl rfl hc i [] s5 _ H5 (fun _ _ => False) I5 (stays I5 n5) t5 z) fun r s6 ⟨u, e6, z6⟩ => ?_
        subst e6
        refine thnF z6 fun _ s7 ⟨x, H7, I7, r7, y7, t7, n7⟩ => thnF (pg.run _ s7 _ H7 x u _ (I7.pinned (stays I7 n7) (U.obj _ _ t7)) r7 (step x H7 y7)) fun _ s8 ⟨σ8, H8, I8, e8, q8⟩ => thnF (pt.run _ s8 σ8 H8 _ I8 q8) fun b s9 ⟨H9, I9, q9⟩ => ?_
        have next : ∀ {s' : Shared} {H' : Hp}, Inv (X.blk sd Hd scope ce fp) ([] ++ pinsAt fp s7.heap) σ8 H' s' → Nx H' → ∃ m, m < n ∧ ∃ i H', Inv (X.blk sd Hd scope ce fp) [] (wipe σ (own.map (·.2))) H' s' ∧ tn i s'.heap ∧ (∀ b ∈ fp, H' b = none) ∧ W i m H' := fun {s' H'} Ie nx => by
          obtain ⟨m2, lt2, w2⟩ := less H' nx
          have pin : ∀ b ∈ fp, ∀ o, s7.heap.get? b = some o → s'.heap.get? b = some o ∧ H' b = none := fun b hb o e => ⟨(Ie.pin (b, o) (List.mem_append_right _ (List.mem_append_right _ (mem_pinsAt hb e)))).1, (Ie.pin (b, o) (List.mem_append_right _ (List.mem_append_right _ (mem_pinsAt hb e)))).2.1⟩
          refine ⟨m2, lt2, i + 1, H', (Ie.unpinned (pins := [])).weak (by rw [← e8, wipe_length]) (fun j v e => ?_), U.keep _ _ _ t7 fun b hb o e => (pin b hb o e).1, fun b hb => ?_, w2⟩
          · rw [← e8] at e; exact (wipe_some e).1
          · obtain ⟨o, e, _⟩ := U.obj _ _ t7 b hb; exact (pin b hb o e).2
        cases b with
        | false => simp only [Bool.false_eq_true, if_false] at q9 ⊢; exact next I9 q9
        | true =>
          simp only [if_true] at q9 ⊢
          exact thnF (pk.run _ s9 σ8 H9 _ I9 q9) fun z s10 ⟨yk, H10, I10, r10, q10⟩ => thnF (pv.run _ s10 σ8 H10 _ I10 q10) fun z2 s11 ⟨yv, H11, I11, r11, q11⟩ =>
            wpAny_mono (ps (X.blk sd Hd scope ce fp) rfl rfl rfl rfl _ σ8 H11 s11 D yk yv z z2 Nx _ I11 r10 r11 q11) (fun _ s12 ⟨H12, I12, nx⟩ => next I12 nx) fun _ _ z => z
    exact codeAny_compStart_dict run (U.self X.A 0 _ _ _ tb run)
  rw [← hcl, hsd] at go
  exact go
end
/-! ### by data -/
def lSt (P : Program) (w : World) (K : PySem.W.Frag) : StR := fun D y z H Nx => ∃ st dv M Qm, T K H y (standD st) ∧ T K H z dv ∧ MOk P w K M H ∧ rSet (.obj D) (standD st) dv M Qm ∧ ∀ M' H', Qm M' → TS H H' → MOk P w K M' H' → Nx H'
theorem room_here {A : Around} {P : Program} {w : World} (hu : A.units + 64 < cLine) : (nestedKind P w).room A := by
  have := hu
  show A.units + _ < cLine
  omega
theorem pst_stands {P : Program} {w : World} {K : PySem.W.Frag} {A : Around} (hu : A.units + 64 < cLine) : PStR P w K A (lSt P w K) := by
  intro X hP hw hK hA pins σ H s D y z u r Q E I ry rz h
  subst hP hw hK hA
  obtain ⟨st, dv, M, Qm, ty, tz, mm, h, f⟩ := h
  unfold rSet at h
  simp only at h
  split at h
  · rename_i ob kvs ho
    rw [toStand_standD, ask_some] at h
    obtain ⟨h0, hl, h⟩ := h
    obtain ⟨b, rfl⟩ := ty.st_inv
    cases ry
    obtain ⟨xs, h1, h2, h3⟩ := mm D _ ho
    have hn : atKey xs (keyS st) = none := by
      rcases pairedKD_at h3 st with ⟨_, z⟩ | ⟨d', p, w', z1, _⟩
      · exact z
      · rw [z1] at h0; cases h0
    have e2 : storedH xs (keyS st) b r = xs ++ [(keyS st, b, r)] := by unfold storedH; rw [hn]; rfl
    have hlen : xs.length = kvs.length := (Paired.length h3).symm
    refine wpAny_dictSet_heap (hsz := h2.1) (room_here hu) (key_is I ty) (dobj_of I h1 h2 h3) fun h' dd hs => ?_
    rw [e2] at dd
    obtain ⟨o', es, ep, g1, g2, g3, g4, _, g5⟩ := dd
    have tso : TS H (upd H D (exo D o')) := TS.over h1 (exo_sf (by obtain ⟨_, _, _, es, ep, hd, _⟩ := h2; exact ⟨es, ep, hd⟩))
    refine ⟨upd H D (exo D o'), d_write I (by rw [h1]; trivial) hs ⟨o', g1⟩ (exo_ok g1), f _ _ (h o') tso (mm.set ho ⟨xs ++ [(keyS st, b, r)], upd_same, ⟨?_, h2.2.1, g2, es, ep, g3, g4, g5⟩, ?_⟩)⟩
    · rw [List.length_append, List.length_singleton, hlen]; omega
    · exact Paired.snoc (Paired.mapP h3 fun _ _ z => KD.keep tso z) ⟨rfl, ty.keep tso, z, rz, tz.keep tso⟩
  · split at h
    · rename_i e
      exact (nomatch e)
    · exact h.elim
  · exact h.elim
def dDc (ti : DTI) (as : D → Option Sets) (tt : DTT) (tk tv : DTE) (vs : List Nat) : DTE := fun Γ M Q => ti Γ M fun src M1 => ∀ a, M1 a = none → ∃ (ds : List D) (W : Nat → Mm → Prop), (∀ i M', W i M' → src M' ds) ∧ W 0 (mset M1 a (.dct L3.newDict [])) ∧
  (∀ i d M', ds[i]? = some d → W i M' → ask (as d) fun sets => (∀ p ∈ sets, p.1 ∈ vs) ∧ tt (setG (wipeG Γ vs) sets) M' fun b M2 => if b = true then tk (setG (wipeG Γ vs) sets) M2 fun y M3 => tv (setG (wipeG Γ vs) sets) M3 fun z M4 => ask (toStand y) fun st => rSet (.obj a) (standD st) z M4 (W (i + 1))
    else W (i + 1) M2) ∧ ∀ M', W ds.length M' → Q (.obj a) M'
theorem l_dc {P : Program} {w : World} {K : PySem.W.Frag} {ti : DTI} {as : D → Option Sets} {tt : DTT} {tk tv : DTE} {vs : List Nat} {σ : L2.St} {H : Hp} {R : VK} (h : lE P w K (dDc ti as tt tk tv vs) σ H R) :
    tDcS (lSt P w K) (lI P w K ti) (lG K as) (lT P w K tt) (lE P w K tk) (lE P w K tv) vs σ H R := by
  obtain ⟨Γ, M, Q, ee, mm, h, f⟩ := h
  refine ⟨Γ, M, _, ee, mm, h, fun src M1 J H1 q t1 m1 it a ha hsys => ?_⟩
  obtain ⟨ds, W, hsrc, w0, turn, fin⟩ := q a (m1.free ha)
  refine ⟨fun i m H' => m = ds.length - i ∧ i ≤ ds.length ∧ ∃ M', W i M' ∧ TS H1 H' ∧ MOk P w K M' H', ⟨ds.length, by omega, by omega, _, w0, TS.new ha, m1.add ha ⟨[], upd_same, new_obj (beq_eq_false_iff_ne.mpr hsys), .nil⟩⟩, ?_⟩
  rintro i m H' ⟨hm, hi, M', w', t', m'⟩
  by_cases hlt : i < ds.length
  · refine .inr ⟨it.go i M' H' ds t' m' (hsrc _ _ w') hlt, fun H2 => ∃ M2, W (i + 1) M2 ∧ TS H1 H2 ∧ MOk P w K M2 H2, fun H2 z => ⟨ds.length - (i + 1), by omega, rfl, hlt, z⟩, fun x H2 y => ?_⟩
    obtain ⟨t2, m2, d, e1, r⟩ := it.yld i M' H' x H2 ds t' m' (hsrc _ _ w') hlt y
    obtain ⟨sets, e2, hin, q⟩ := ask_ok (turn i d M' e1 w')
    refine ⟨d, sets, r, e2, fun ws hv => ⟨?_, ?_⟩⟩
    · rw [setV_wipe hv hin]
      exact wipe_wipe vs vs fun _ z => z
    · have e0 : EOk K H2 (setV (L2.wipe σ vs) ws) (setG (wipeG Γ vs) sets) := hv.env ((ee.keep (t1.tr (t'.tr t2))).wipe vs)
      refine ⟨_, M', _, e0, m2, q, fun b M3 H3 q3 t3 m3 => ?_⟩
      cases b with
      | false =>
        rw [if_neg Bool.false_ne_true] at q3 ⊢
        exact ⟨M3, q3, t'.tr (t2.tr t3), m3⟩
      | true =>
        rw [if_pos rfl] at q3 ⊢
        refine ⟨_, M3, _, e0.keep t3, m3, q3, fun y M4 v4 H4 q4 t4 m4 r4 => ?_⟩
        refine ⟨_, M4, _, e0.keep (t3.tr t4), m4, q4, fun z M5 v5 H5 q5 t5 m5 r5 => ?_⟩
        obtain ⟨st, e6, q5⟩ := ask_ok q5
        rw [of_toStand e6] at r4
        exact ⟨st, z, M5, _, r4.keep t5, r5, m5, q5, fun M6 H6 q6 t6 m6 => ⟨M6, q6, t'.tr (t2.tr (t3.tr (t4.tr (t5.tr t6)))), m6⟩⟩
  · have e : i = ds.length := by omega
    subst e
    exact .inl ⟨it.stop _ M' H' ds t' m' (hsrc _ _ w') (Nat.le_refl _), f _ M' _ H' (fin _ w') (t1.tr t') m' (.obj a)⟩
section
variable {X : Cx} {kx vx tg iter : Expr} {ifs : List Expr} {scope : Scope} {own : List (Str × Nat)} {pos : Pos} {ti : DTI} {as : D → Option Sets} {tt : DTT} {tk tv : DTE}
theorem sw_dict {gs : List Comprehension} {py : Pos} {y : Str} {l : Nat} {env : Env} (hk : env.scope.kind = .function) (hy : env.scope.names.lookup y = some .local) (hl : (py.line == pos.line) = true)
    (ha : (scope.names.any fun (n, k) => n == y && (k == .local || k == .cell)) = false) : swapsWith (.DictComp kx vx gs scope pos) (some (.Name y py)) l env = pure true := by
  have k1 : env.kindOf y = some .local := hy
  have k2 : env.blockKind = .function := by unfold Env.blockKind; rw [hk]; rfl
  unfold swapsWith; simp only [k2, k1, ha, Expr.pos, hl]; rfl
theorem ds_setDc {i : Nat} {y : Str} {py spos : Pos} (hc : X.calm = true) (hN : X.N.Nodup) (hy : X.N[i]? = some y) (hyl : X.env.scope.names.lookup y = some .local) (hu : X.A.units + 64 < cLine)
    (hsw : swapsWith (.DictComp kx vx [⟨tg, iter, ifs, 0⟩] scope pos) (some (.Name y py)) spos.line X.env = pure true) (hi : DI X tg iter ti) (ok : BlkOk X.N X.env.scope scope own)
    (hg : ∀ (s : Shared) (H : Hp) (C : Addr) (cl : List (Str × Addr)) (fp : List Addr), DG (X.blk s H scope (compEnvC scope cl C X.env) fp) tg as) (ht : ∀ (s : Shared) (H : Hp) (C : Addr) (cl : List (Str × Addr)) (fp : List Addr), DTs (X.blk s H scope (compEnvC scope cl C X.env) fp) ifs tt)
    (hk : ∀ (s : Shared) (H : Hp) (C : Addr) (cl : List (Str × Addr)) (fp : List Addr), DE (X.blk s H scope (compEnvC scope cl C X.env) fp) kx tk) (he : ∀ (s : Shared) (H : Hp) (C : Addr) (cl : List (Str × Addr)) (fp : List Addr), DE (X.blk s H scope (compEnvC scope cl C X.env) fp) vx tv)
    (hs : ∀ x, foldedSetIterable iter X.env x = pure x := by intro _; rfl) :
    DS X (.Assign [.Name y py] (.DictComp kx vx [⟨tg, iter, ifs, 0⟩] scope pos) spos) (dSet i (dDc ti as tt tk tv (own.map (·.2)))) := by
  refine ⟨fun pins s σ H Dn I ⟨Γ, M, En, ee, mm, h, f1, f2, f3, f4⟩ => ?_⟩
  rw [(exec_Assign_Name_used _ _ _ _ hsw)]
  refine wpAny_bind (wpAny_standAt (wpAny_bind ?_)); show wpAny _ X.A (do let _ ← comprehension (.DictComp kx vx [⟨tg, iter, ifs, 0⟩] scope pos) scope X.env (firstIterPos [⟨tg, iter, ifs, 0⟩] pos) PySem.newDict false (eval iter X.env) (some (assign (.Name y py) X.env))) _ _ s
  have h2 : tDcS (lSt X.prog X.w X.K) (lI X.prog X.w X.K ti) (lG X.K as) (lT X.prog X.w X.K tt) (lE X.prog X.w X.K tk) (lE X.prog X.w X.K tv) (own.map (·.2)) σ H (fun x H1 => gName i x σ H1 Dn.nx) :=
    l_dc ⟨Γ, M, _, ee, mm, h, fun d M1 v H1 q t1 m1 r1 => f1 _ _ _ _ q t1 m1 ((ee.keep t1).set r1)⟩
  refine wpAny_bind (thn (run_stands (Qf := fun _ s' => SP X pins Dn .next s') hc hN (pst_stands hu) I hi ok hg ht hk he hs h2 fun D C s' m H' I' q hn f => ?_) fun _ s' hq => wpAny_pure (wpAny_pure hq))
  show wpAny _ _ (assign (.Name y py) X.env (.ref D)) _ _ _
  refine wpAny_assign_Name (store_ok2 (v := V.ref D) I' hN hy (.inl hyl) rfl (fun s2 I2 ⟨a, sb, ha⟩ => ?_) (.inr hyl))
  rcases f with ⟨f0, f1, f2, f3, f4, f5⟩
  exact ⟨m, hn.sameBut sb (ha.elim (fun z => by rw [z]; exact f1) fun z e => f4 y a z e.symm), fun h3 sb3 => ⟨_, H', I2.turned (t' := s2.toks) (fun b o hb e => (sb3.2 b hb).trans e) f0 f1 f3 f4 f5, q⟩⟩
end
end L3

/-! sorted(set(t)), t a tuple of texts that are unlike. -/
namespace L3
open PySem PySem.Spec PyProof.Rows L2

abbrev SD := PySem.Froz.SD
abbrev txO (D : SD) : Obj := PySem.Froz.sObj "set" D
abbrev led0 (w : World) : SD := (#[], 0, .fresh 0 0 (!w.params.followText "set-order"))
/-- the table tells its order -/
def RL (w : World) (D : SD) : Prop := Ris D.2.2.place.toList ∧ (w.params.followText "set-order" = true ∨ D.2.2.led = true)
theorem RL.new (w : World) : RL w (led0 w) := ⟨List.Pairwise.nil, by
  show _ ∨ (not (w.params.followText "set-order")) = true
  cases w.params.followText "set-order" <;> simp⟩
theorem RL.add {w : World} {D : SD} (R : RL w D) (h : Int) (v : Value) : RL w (PySem.Froz.addTx h v D) := by
  obtain ⟨es, ep, t⟩ := D
  have a1 := layNew_ris t es h v R.1
  have a2 := layNew_led t es h v
  have R2 : w.params.followText "set-order" = true ∨ t.led = true := R.2
  unfold PySem.Froz.addTx PySem.Froz.tailTx
  dsimp only
  generalize layNew t es h v = Z at a1 a2 ⊢
  obtain ⟨e1, t1, wd, gv⟩ := Z
  dsimp only at a1 a2 ⊢
  have b : ∀ t2 : SetTable, t2.place = t1.place → t2.led = t1.led → RL w (if (!wd && t2.tooFull) = true then ((relayAll t2 e1 (SetTable.grown e1.size)).1, ep + 2, (relayAll t2 e1 (SetTable.grown e1.size)).2.1) else (e1, ep + 1, t2)) := fun t2 p1 p2 => by
    split
    · exact ⟨relayAll_ris t2 e1 _, by rw [show (relayAll t2 e1 (SetTable.grown e1.size)).2.1.led = t.led from (relayAll_led t2 e1 _).trans (p2.trans a2)]; exact R2⟩
    · exact ⟨by rw [show t2.place = t1.place from p1]; exact a1, by rw [show t2.led = t.led from p2.trans a2]; exact R2⟩
  split
  · exact b _ rfl rfl
  · exact b _ rfl rfl
/-- the set a holds the texts l -/
def TxS (P : Program) (w : World) (h : Heap) (a : Addr) (l : List Str) : Prop := ∃ D, h.get? a = some (txO D) ∧ PySem.Froz.TxOk P w D l ∧ RL w D
theorem TxS.at {P : Program} {w : World} {h h' : Heap} {a : Addr} {l : List Str} (R : TxS P w h a l) (k : ∀ o, h.get? a = some o → h'.get? a = some o) : TxS P w h' a l := let ⟨D, e, r⟩ := R; ⟨D, k _ e, r⟩

section
variable {P : Program} {w : World} {A : Around} {s : Shared} {E : Value → Shared → Prop}
theorem fill_txt {I : Addr} {fp wr : List Addr} {G : Array GenState → Array GenState → Prop} {n : Nat} {Pv : Nat → Value → Prop} {St : Nat → Shared → Prop} {R : Result → Shared → Prop}
    (W : WalksS P w A.in1 I fp wr G n Pv St) (S : Addr) (hSf : S ∉ fp) (ws : List Str) (nd : ws.Nodup) (hn : n = ws.length) (hb : ws.length + 1 < scanBound) (hv : ∀ i v, Pv i v → ∃ k t, ws[i]? = some k ∧ v = .str k t)
    (fin : ∀ s0 s', Moved (S :: wr) G s0 s' → s0 = s → TxS P w s'.heap S ws.reverse → R (.ok (.ret .none)) s') :
    ∀ (m i : Nat) (s1 : Shared), n - i = m → i ≤ n → St i s1 → Moved (S :: wr) G s s1 → TxS P w s1.heap S (ws.take i).reverse → codeAny (model P w) A (.builtin "set.update.loop" ⟨[.ref S, .ref I], []⟩) R s1 := by
  have hSw : S ∉ wr := fun z => hSf (W.sub _ z)
  have sub : ∀ b ∈ wr, b ∈ S :: wr := fun b z => List.mem_cons_of_mem _ z
  intro m
  induction m with
  | zero =>
    intro i s1 hm hi st mv tx
    have e : i = n := by omega
    refine codeAny_builtin F.entry_set_update_loop ?_; rw [(Around.under_plainId F.plain_set_update_loop _)]
    subst e
    show wpAny _ A.in1 (pyNext (.ref I) >>= _) _ _ s1
    refine wpAny_bind (W.done s1 _ _ st fun s2 h2 => ?_)
    show wpAny _ A.in1 (ret Value.none) _ _ s2
    rw [List.take_of_length_le (show ws.length ≤ i by omega)] at tx
    exact wpAny_pure (fin s s2 (Moved.trans W.gtrans mv (h2.mono sub)) rfl (tx.at fun o e => h2.heap S o hSw e))
  | succ m ih =>
    intro i s1 hm hi st mv tx
    have lt : i < n := by omega
    refine codeAny_builtin F.entry_set_update_loop ?_; rw [(Around.under_plainId F.plain_set_update_loop _)]
    show wpAny _ A.in1 (pyNext (.ref I) >>= _) _ _ s1
    refine wpAny_bind (W.item i s1 _ _ lt st fun v s2 hp st2 h2 => ?_)
    obtain ⟨z, t, hz, rfl⟩ := hv i v hp
    obtain ⟨D, d1, d2, d3⟩ := tx.at (h' := s2.heap) fun o e => h2.heap S o hSw e
    obtain ⟨hlt, hzi⟩ := List.getElem?_eq_some_iff.mp hz
    have fresh : z ∉ (ws.take i).reverse := fun c => by
      rw [List.mem_reverse] at c
      obtain ⟨j, hj⟩ := List.mem_iff_getElem?.mp c
      have hj2 : j < i := by
        have := (List.getElem?_eq_some_iff.mp hj).1
        rw [List.length_take] at this
        omega
      rw [List.getElem?_take_of_lt hj2] at hj
      have := (List.nodup_iff_pairwise_ne.mp nd)
      rw [List.pairwise_iff_getElem] at this
      have hjl := (List.getElem?_eq_some_iff.mp hj)
      exact this j i hjl.1 hlt hj2 (by rw [hzi]; exact hjl.2)
    show wpAny _ A.in1 (holding [Value.str z t] (setAdd S (.str z t)) >>= _) _ _ s2
    refine wpAny_bind (wpAny_holding ?_); unfold setAdd
    refine wpAny_holding (wpAny_bind ((strKind P w).pyHash (k := z) (PySem.Froz.is_str z t) ?_))
    refine PySem.Froz.add_x (s := { s2 with toks := s2.toks + 1 }) d1 d2 fresh (by rw [List.length_reverse, List.length_take]; omega) ?_
    have sb := Heap.SameBut.update s2.heap S (fun _ => txO (PySem.Froz.addTx (hashStr w z) (.str z t) D))
    have tx3 : TxS P w (s2.heap.update S (fun _ => txO (PySem.Froz.addTx (hashStr w z) (.str z t) D))) S (ws.take (i + 1)).reverse := by
      refine ⟨_, PySem.Froz.get_upd _ d1 rfl, ?_, d3.add _ _⟩
      rw [List.take_add_one, hz, Option.toList_some, List.reverse_append]
      exact PySem.Froz.add_ok t d2
    refine wpAny_pure ⟨plainId_quiet F.plain_set_update_loop _, ih (i + 1) _ (by omega) lt (W.frame _ s2 _ _ st2 (Nat.le_succ _) fun b hb o e => ?_) (Moved.trans W.gtrans mv ((h2.mono sub).then_heap (Nat.le_succ _) fun b o hb e => ?_)) tx3⟩
    · rw [sb.2 b (fun h : b = S => hSf (by rw [← h]; exact hb))]; exact e
    · rw [sb.2 b (fun h : b = S => hb (by rw [h]; exact List.mem_cons_self))]; exact e
abbrev sN (w : World) (s : Shared) : Heap := s.heap.push (txO (led0 w))
theorem make_txt {l : Addr} {items : Array Value} (ws : List Str) (nd : ws.Nodup) {Q : Value → Shared → Prop} (hh : A.handled = none) (hl : s.heap.IsTuple l items) (hit : StrsAre items.toList ws) (hb : ws.length + 1 < scanBound)
    (h : ∀ (h' : Heap) (tk : Nat), TxS P w h' s.heap.objs.size ws.reverse → (∀ b o, s.heap.get? b = some o → h'.get? b = some o) → Q (.ref s.heap.objs.size) { s with heap := h', toks := tk }) : wpAny (model P w) A (call (.type "set") [.ref l]) Q E s := by
  have len : items.size = ws.length := Array.length_toList.symm.trans (StrsAre.length hit)
  obtain ⟨c, tl, m0⟩ := F.called_set.mro; have m1 := F.called_set.made; have m2 := F.called_set.sub
  refine wpAny_call (codeAny_of_tree ?_); show wpAny _ _ (callAny (.type "set") _) _ _ _
  refine wpAny_pure ⟨Code.quiet_builtin _ (by decide +kernel), codeAny_builtin F.entry_type_call ?_⟩; rw [Around.under_plain (weight_type_call_type "set" [.ref l] []) rfl]
  have k1 := F.called_set.notType; have k2 := F.called_set.canCreate; have k3 := F.typeCall_set_1 (.ref l)
  repeat (any_goals first | assumption | wp_step)
  refine codeAny_mono (code_set_led1 (.ref l) (E := E) (Q₁ := fun o1 s1 => o1 = .ref s.heap.objs.size ∧ s1 = { s with heap := sN w s }) ⟨rfl, rfl⟩) fun r s1 hr => ?_
  cases r with
  | error e => exact hr
  | ok fl =>
    cases fl with
    | ret obj =>
      obtain ⟨rfl, rfl⟩ := hr
      have hS : (sN w s).get? s.heap.objs.size = some (txO (led0 w)) := Heap.get?_push_size _ rfl
      have hT : Shared.TypeIs { s with heap := sN w s } (.ref s.heap.objs.size) "set" := ⟨_, hS, rfl⟩
      have j1 := F.called_set.init.lookup; have j2 := F.called_set.init.bind (.ref s.heap.objs.size)
      repeat (any_goals first | assumption | wp_step)
      refine codeAny_mono (codeAny_call_builtin (R := wants (fun r s2 => r = .none ∧ ∃ h' tk, s2 = { s with heap := h', toks := tk } ∧ TxS P w h' s.heap.objs.size ws.reverse ∧ ∀ b o, s.heap.get? b = some o → h'.get? b = some o) E) F.called_set.init.plain F.entry_set_init (check_set_init_1 hT ?_)) fun r2 s2 hr2 => ?_
      · obtain ⟨⟨oc, od, oda, osl⟩, hol, hcl, nl, hdl⟩ := hl
        simp only at hcl hdl; subst hcl; subst hdl
        have hol2 : (sN w s).get? l = some { cls := .type "tuple", dict := od, data := .seq items nl, slots := osl } := Heap.get?_push_of_some _ hol
        have i1 := F.sub_tuple_set; have i2 := F.sub_tuple_frozenset
        have i3 : (Value.type "tuple" == Value.type "dict") = false := by decide
        have hl1 : (sN w s).IsTuple l items := ⟨_, hol2, rfl, nl, rfl⟩
        unfold Builtin.«set.__init__» noKeywords Builtin.Frozenset.updateFrom; generalize hPI : pyIter = PI; wp_walk; subst hPI
        refine wpAny_pyIter_tuple hl1 (wpAny_bind (wpAny_runValue ?_))
        have lS : l < s.heap.objs.size := Heap.lt_size hol
        have ssz : (sN w s).objs.size = s.heap.objs.size + 1 := Heap.size_push ..
        have ln : l ≠ (sN w s).objs.size := by rw [ssz]; exact Nat.ne_of_lt (Nat.lt_succ_of_lt lS)
        have sf : s.heap.objs.size ∉ [(sN w s).objs.size, l] := by
          rw [ssz]; simp only [List.mem_cons, List.not_mem_nil, or_false, not_or]; exact ⟨Nat.ne_of_lt (Nat.lt_succ_self _), Nat.ne_of_gt lS⟩
        have vals : ∀ (i : Nat) (v : Value), items[i]? = some v → ∃ k t, ws[i]? = some k ∧ v = Value.str k t := fun i v hv => by
          rw [← Array.getElem?_toList] at hv
          have go : ∀ (us : List Value) (ks : List Str), StrsAre us ks → ∀ (i : Nat) (v : Value), us[i]? = some v → ∃ k t, ks[i]? = some k ∧ v = Value.str k t := by
            intro us ks z
            induction z with
            | nil => intro i v e; exact nomatch e
            | cons x t _ ih =>
              intro i v e
              cases i with
              | zero => simp at e; exact ⟨x, t, rfl, e.symm⟩
              | succ j => simpa using ih j v (by simpa using e)
          exact go _ _ hit i v hv
        refine fill_txt (s := { s with heap := (sN w s).push { cls := .type "tuple_iterator", data := .fields #[.ref l, .int 0 0] } }) ((Walks.tuple (by simp [hh]) _ l ln items).toS) s.heap.objs.size sf ws nd len hb vals ?e0 (items.size - 0) 0 _ (by omega) (Nat.zero_le _) ⟨⟨_, Heap.get?_push_size _ rfl, rfl, rfl⟩, (hl1.push _)⟩ ?e1 ⟨_, Heap.get?_push_of_some _ hS, PySem.Froz.TxOk.nil (by rfl), RL.new w⟩
        case e1 => exact ⟨fun _ _ _ e => e, rfl, rfl, rfl, Nat.le_refl _⟩
        case e0 =>
          rintro _ ⟨h', g2, d2, t2, o2⟩ mv rfl tx
          have q1 : g2 = s.gens := mv.gens; have q2 : d2 = s.drawn := mv.drawn; have q3 : o2 = s.os := mv.os
          subst q1; subst q2; subst q3
          show wpAny _ _ _ _ _ _
          refine wpAny_pure ?_
          show wpAny _ _ (ret .none) _ _ _
          refine wpAny_pure ⟨rfl, h', t2, rfl, tx, fun b o e => ?_⟩
          have b0 := Heap.lt_size e
          refine mv.heap b o ?_ (Heap.get?_push_of_some _ (Heap.get?_push_of_some _ e))
          simp only [List.mem_cons, List.not_mem_nil, or_false, not_or, ssz]
          exact ⟨Nat.ne_of_lt b0, Nat.ne_of_lt (Nat.lt_succ_of_lt b0)⟩
      · cases r2 with
        | error e => exact hr2
        | ok fl2 =>
          cases fl2 with
          | ret r =>
            obtain ⟨rfl, h', tk, rfl, z1, z2⟩ := hr2
            repeat (any_goals first | assumption | wp_step)
            exact h _ _ z1 z2
          | _ => exact hr2.elim
    | _ => exact hr.elim
theorem perm_sub {α : Type} [DecidableEq α] : ∀ {ws ks : List α}, ws.Nodup → (∀ k ∈ ws, k ∈ ks) → ks.length = ws.length → ks.Perm ws
  | [], ks, _, _, h => by rw [List.length_eq_zero_iff.mp h]
  | x :: ws, ks, nd, hs, h => by
    obtain ⟨h1, h2⟩ := List.nodup_cons.mp nd
    have hx : x ∈ ks := hs x List.mem_cons_self
    have p := List.perm_cons_erase hx
    refine p.trans (List.Perm.cons x (perm_sub h2 (fun k hk => (List.mem_erase_of_ne (fun e => h1 (by rw [← show k = x from e]; exact hk) : k ≠ x)).mpr (hs k (List.mem_cons_of_mem _ hk))) ?_))
    rw [List.length_erase_of_mem hx, h]
    rfl
theorem strs_of : ∀ (l : List Value), (∀ v ∈ l, ∃ k tk, v = Value.str k tk) → ∃ ks, StrsAre l ks
  | [], _ => ⟨[], .nil⟩
  | v :: l, h => by
    rcases h v List.mem_cons_self with ⟨k, tk, rfl⟩
    obtain ⟨ks, q⟩ := strs_of l fun u hu => h u (List.mem_cons_of_mem _ hu)
    exact ⟨k :: ks, .cons k tk q⟩
theorem sort_txt {a : Addr} {ws : List Str} {Q : Value → Shared → Prop} (nd : ws.Nodup) (R : TxS P w s.heap a ws.reverse) (hh : A.handled = none) (h64 : ws.length < 64)
    (hQ : ∀ s' p (out : Array Value) (c : Nat) (ys : List Str), (∀ b o, s.heap.get? b = some o → s'.heap.get? b = some o) → s'.gens = s.gens → s'.os = s.os → s.heap.objs.size ≤ p →
      s'.heap.get? p = some (seqObj "list" out c) → StrsAre out.toList ys → sortedS ys = true → ys.Perm ws → Q (.ref p) s') : wpAny (model P w) A (call (.builtin "sorted") [.ref a]) Q E s := by
  obtain ⟨⟨es, ep, t⟩, d1, d2, r1, r2⟩ := R
  have sz : es.size = ws.length := by rw [← List.length_reverse]; exact d2.sz
  refine Calls.call_function_entry kind_sorted plain_sorted entry_sorted (args_sorted1 _) ?_; unfold Builtin.«sorted»
  refine wpAny_bind (m := checkCount "sorted" 1 1 _) (wpAny_pure (wpAny_bind (collect_set (A := A.in1) hh ⟨txO (es, ep, t), d1, rfl, rfl⟩ d2.fit (show es.size < scanBound by unfold scanBound; omega) r1 r2 fun s1 vs old hz g1 o1 pm => ?_)))
  have vl : vs.length = ws.length := by rw [pm.length_eq, List.length_map, Array.length_toList, sz]
  have vstr : ∀ v ∈ vs, ∃ k tk, v = Value.str k tk ∧ k ∈ ws := fun v hv => by
    obtain ⟨e, he, rfl⟩ := List.mem_map.mp (pm.mem_iff.mp hv)
    obtain ⟨⟨k, q, _⟩, _⟩ := d2.el e he
    have km := List.mem_reverse.mp ((d2.mem k).mpr ⟨e, he, q⟩)
    have q : Value.isStrOf k e.2 = true := q
    generalize e.2 = u at q
    cases u with
    | str x tk =>
      have : x = k := by simpa [Value.isStrOf] using q
      subst this
      exact ⟨x, tk, rfl, km⟩
    | _ => simp [Value.isStrOf] at q
  obtain ⟨ks, hS⟩ := strs_of vs fun v hv => let ⟨k, tk, e, _⟩ := vstr v hv; ⟨k, tk, e⟩
  have kl : ks.length = ws.length := (StrsAre.length hS).symm.trans vl
  have sub : ∀ k ∈ ws, k ∈ ks := fun k hk => by
    obtain ⟨e, he, q⟩ := (d2.mem k).mp (List.mem_reverse.mpr hk)
    have hv : e.2 ∈ vs := pm.mem_iff.mpr (List.mem_map.mpr ⟨e, he, rfl⟩)
    have q : Value.isStrOf k e.2 = true := q
    have go : ∀ (us : List Value) (xs : List Str), StrsAre us xs → ∀ u ∈ us, Value.isStrOf k u = true → k ∈ xs := by
      intro us xs z
      induction z with
      | nil => intro u hu; cases hu
      | cons x t _ ih =>
        intro u hu qu
        obtain rfl | hu := List.mem_cons.mp hu
        · have : x = k := by simpa [Value.isStrOf] using qu
          rw [this]; exact List.mem_cons_self
        · exact List.mem_cons_of_mem _ (ih u hu qu)
    exact go _ _ hS _ hv q
  have pk : ks.Perm ws := perm_sub nd sub kl
  refine wpAny_bind (wpAny_newList ?_ (by rw [vl, sizeLine_eq]; omega))
  have oL : (s1.heap.push (seqObj "list" vs.toArray 0)).get? s1.heap.objs.size = some (seqObj "list" vs.toArray 0) := Heap.get?_push_size _ rfl
  refine wpAny_bind (wpAny_holding (wpAny_call_entry slot_list_sort ⟨_, oL, rfl⟩ entry_list_sort (list_sort_treeK strKind_oneLt oL hS.keysOf (fun v1 v2 rest e => keyKind_strs (by rw [← e]; exact hS)) (by rw [vl]; exact h64) fun st hp hs => ⟨_, rfl, ?_⟩) (args_list_sort _)))
  obtain ⟨ys, a1, a2, a3⟩ := sorted_out_str hS hp hs
  obtain ⟨c, hc⟩ := sortedHeap_at (vs := vs) (out := (arrOf st).map (·.2)) oL
  refine wpAny_pure ⟨_, rfl, hQ _ s1.heap.objs.size _ c ys (fun b u e => ?_) g1 o1 hz hc a1 a3 (a2.trans pk)⟩
  have q := old b u e
  have lt := Heap.lt_size q
  show (sortedHeap (s1.heap.push (seqObj "list" vs.toArray 0)) s1.heap.objs.size vs ((arrOf st).map (·.2))).get? b = some u
  rw [sortedHeap_old (Nat.ne_of_lt lt) (by rw [size_push']; exact Nat.lt_succ_of_lt lt)]; exact Heap.get?_push_of_some _ q
end

/-! ### the rule -/
def TxO (P : Program) (w : World) (a : Addr) (l : List Str) : HO := .ext fun h => TxS P w h a l
section
variable {X : Cx} {e : Expr} {pos p p2 pos2 : Pos} {ta : DTE}
theorem txo_ok {P : Program} {w : World} {H : Hp} {h : Heap} {a : Addr} {l : List Str} (R : TxS P w h a l) : ObjOk P w H h a (TxO P w a l) := by
  have ⟨D, d, _⟩ := R
  exact ⟨R, ⟨_, d⟩, fun h1 h2 p k => TxS.at p k⟩
def rSetTx (P : Program) (w : World) (K : PySem.W.Frag) : List V → Hp → VK → Prop := fun vs H Q => ∃ (a : Addr) (ws : List Str), vs = [.ref a] ∧ SqT K H a (ws.map V.str) ∧ ws.Nodup ∧ ws.length < 64 ∧ ∀ p, H p = none → Q (.ref p) (upd H p (TxO P w p ws.reverse))
theorem cr_setTx (hc : X.calm = true) : CallR X (.type "set") (rSetTx X.prog X.w X.K) := by
  rintro pins s σ H xs us Q I r ⟨a, ws, rfl, hs, nd, h64, q⟩
  obtain ⟨its, rv, hl, hz⟩ := I.tuple hs
  rw [Vals.ref1 r]
  refine make_txt ws nd (I.ok.hd hc) (show s.heap.IsTuple a its.toArray from hl) rv.strs (by unfold scanBound; omega) fun h' tk tx k => ?_
  have J : Inv X pins σ (upd H s.heap.objs.size (TxO X.prog X.w s.heap.objs.size ws.reverse)) { s with heap := h', toks := tk } := I.laid (a := s.heap.objs.size) k (Nat.le_refl _) (txo_ok tx)
  exact ⟨.ref _, _, J, rfl, q _ (I.hok.fresh (Nat.le_refl _))⟩
def rSortTx (P : Program) (w : World) : List V → Hp → VK → Prop := fun vs H Q => ∃ (a : Addr) (ws : List Str), vs = [.ref a] ∧ H a = some (TxO P w a ws.reverse) ∧ ws.Nodup ∧ ws.length < 64 ∧
  ∀ (ys : List Str) (p : Addr), ys.Perm ws → sortedS ys = true → H p = none → Q (.ref p) (upd H p (.lst (ys.map V.str)))
theorem cr_sortTx (hc : X.calm = true) : CallR X (.builtin "sorted") (rSortTx X.prog X.w) := by
  rintro pins s σ H vs us Q I r ⟨a, ws, rfl, ha, nd, h64, q⟩
  have R : TxS X.prog X.w s.heap a ws.reverse := (I.hok a _ ha).1
  rw [Vals.ref1 r]
  refine sort_txt nd R (I.ok.hd hc) h64 fun s' p out c ys k g o hp hg hi hs hm => ?_
  have hlen : (ys.map V.str).length ≤ sizeLine := by rw [List.length_map, hm.length_eq]; exact small64 h64
  have hn := (I.hok.fresh hp : H p = none)
  have J : Inv X pins σ (upd H p (.lst (ys.map V.str))) s' := I.call' (ch := []) o (Un.laid k hp hn) (I.hok.laid k hp ⟨hlen, out.toList, c, vals_of_strs hi, hg⟩) (by rw [g]; exact I.bare) (fun _ z => nomatch z)
  exact ⟨.ref p, _, J, rfl, q ys p hm hs hn⟩
/-- sorted(set(e)) -/
def dSortS (ta : DTE) : DTE := fun Γ M Q => ta Γ M fun x M1 => match x with
  | .tup ds => ask (toSs ds) fun ws => ws.Nodup ∧ ws.length < 64 ∧ ∀ (ys : List Str) (p : Addr), ys.Perm ws → sortedS ys = true → M1 p = none → Q (.obj p) (mset M1 p (.lst (ys.map D.str)))
  | _ => False
theorem de_sortset (hc : X.calm = true) (hg : Gl X "sorted") (hm : X.mg "sorted" = none) (hg2 : Gl X "set") (hm2 : X.mg "set" = none) (he : DE X e ta)
    (h1 : starEach [e] X.env = (false, eval e X.env) :: starEach [] X.env := by rfl) (h2 : starEach [.Call (.Name "set" p2) [e] [] pos2] X.env = (false, eval (.Call (.Name "set" p2) [e] [] pos2) X.env) :: starEach [] X.env := by rfl) :
    DE X (.Call (.Name "sorted" p) [.Call (.Name "set" p2) [e] [] pos2] [] pos) (dSortS ta) :=
  pe_imp (pe_callB (cr_sortTx hc) hg hm (by decide +kernel) (pa_cons (pe_callTy (cr_setTx hc) hg2 hm2 (by decide +kernel) (pa_cons he pa_nil h1) (he := h1)) pa_nil)) fun σ H R ⟨Γ, M, Q, ee, mm, h, f⟩ => by
    refine ⟨Γ, M, _, ee, mm, h, fun x M1 v H1 q t1 m1 r1 => ?_⟩
    cases x with
    | tup ds =>
      obtain ⟨ws, e1, nd, h64, q⟩ := ask_ok q
      obtain ⟨a, xs, rfl, tp, ts⟩ := r1.tup_inv
      have ex := toSs_T ts e1
      refine ⟨a, ws, rfl, ex ▸ tp.sq, nd, h64, fun p0 hp0 => ⟨p0, ws, rfl, upd_same, nd, h64, fun ys p1 a1 a2 hp1 => ?_⟩⟩
      have hp1' : H1 p1 = none := by
        by_cases c : p1 = p0
        · rw [c]; exact hp0
        · rw [upd_ne c] at hp1; exact hp1
      have m2 := m1.new (u := TxO X.prog X.w p0 ws.reverse) hp0
      exact f (.obj p1) _ (.ref p1) _ (q ys p1 a1 a2 (m1.free hp1')) (t1.tr ((TS.new hp0).tr (TS.new hp1))) (m2.addL hp1 (Ts_strs ys)) (.obj p1)
    | _ => exact q.elim
end
end L3

/-! What is walked: enumerate. -/
namespace L3
open PySem PySem.Spec PyProof.Rows L2
/-- pairs (place, item) of the list a -/
def srcE (a : Addr) : Src := fun M ds => ∃ xs, M a = some (.lst xs) ∧ ds = xs.mapIdx fun i d => .tup [.int (.ofNat i), d]
def dIE (tr : DTA) : DTI := fun Γ M R => tr Γ M fun ds M1 => match ds with
  | [.obj a] => isL M1 (.obj a) ∧ R (srcE a) M1
  | _ => False
theorem it_enum {P : Program} {w : World} {K : PySem.W.Frag} {a : Addr} {H0 : Hp} : ItOk P w K (Ite K a) H0 (srcE a) where
  go := fun i M H ds _ mm ⟨xs, h, e⟩ hi => by
    obtain ⟨us, h1, h2⟩ := mm.lst h
    subst e
    rw [List.length_mapIdx] at hi
    obtain ⟨v, e, _⟩ := h2.at (List.getElem?_eq_getElem hi)
    exact ⟨us, v, .of h1, e⟩
  yld := fun i M H x H' ds _ mm ⟨xs, h, e⟩ hi ⟨T, y, e1, e2, e3, e4⟩ => by
    subst e e1 e3
    obtain ⟨us, h1, h2⟩ := mm.lst h
    obtain ⟨d, e5, r⟩ := h2.at' (e4 us (.of h1))
    refine ⟨TS.new e2, mm.new e2, .tup [.int (.ofNat i), d], by rw [List.getElem?_mapIdx, e5]; rfl, ?_⟩
    exact .tup (.inl upd_same) (.cons (.int _) (.cons (r.keep (TS.new e2)) .nil))
  stop := fun i M H ds _ mm ⟨xs, h, e⟩ hi => by
    obtain ⟨us, h1, h2⟩ := mm.lst h
    subst e
    rw [List.length_mapIdx] at hi
    exact ⟨us, .of h1, by rw [h2.len]; exact hi⟩
theorem di_enum {X : Cx} {e : Expr} {tr : DTA} {p pos tpos : Pos} {elts : List Expr} {kk : Nat} (hg : Gl X "enumerate") (hm : X.mg "enumerate" = none) (ha : DA X [e] tr) (hs : starEach [e] X.env = [(false, eval e X.env)] := by rfl) :
    DI X (.Tuple elts kk tpos) (.Call (.Name "enumerate" p) [e] [] pos) (dIE tr) := pi_imp (pi_enum hg hm ha hs) fun σ H R ⟨Γ, M, Q, ee, mm, h, f⟩ => ⟨Γ, M, _, ee, mm, h, fun ds M1 vs H1 q t1 m1 r1 => by
  split at q
  · rename_i a
    obtain ⟨q0, q⟩ := q
    obtain ⟨a', xs, e0, h0⟩ := isL_ok q0
    cases e0
    obtain ⟨v, rfl, tv⟩ := Ts.one r1
    obtain ⟨us, h1, _⟩ := m1.lst h0
    exact ⟨a, us, by rw [tv.obj_inv], .of h1, f _ M1 _ H1 q t1 m1 it_enum⟩
  · exact q.elim⟩
end L3

/-! zip of two lists within an except suite. -/
namespace L3
open PySem PySem.Spec PyProof.Rows L2 HotX L2H
section
variable {prog : Program} {w : World} {A : Around} {E : Value → Shared → Prop} {s : Shared}
theorem list_ends_hot {it l x1 : Addr} {i : Nat} {items : Array Value} {Q : Value → Shared → Prop} (hot : HotAt A x1 s.heap) (ne : x1 ≠ it) (hit : s.heap.IsListIter it l i) (hl : s.heap.IsList l items) (hx : items[i]? = none) (hE : ∀ h' e, Heap.ExtBut it s.heap h' → (∃ o, h'.get? e = some o ∧ o.cls = .type "StopIteration") → E (.ref e) { s with heap := h' }) : wpAny (model prog w) A (Builtin.SmallTypes.nextOf (.ref it)) Q E s := by
  obtain ⟨o, ho, hc, hd⟩ := id hit; obtain ⟨ol, hol, _, nl, hdl⟩ := hl; obtain ⟨hh, o1, vs1, h1, d1, c1⟩ := hot
  unfold PySem.Builtin.SmallTypes.nextOf
  refine wpAny_bind (wpAny_callSpecial?_slot (name := Str.ofString "__next__") hit.typeIs slot_listiter_next (wpAny_call_entry slot_listiter_next hit.typeIs entry_listiter_next ?_ (args_listiter_next _)))
  show wpAny _ _ (field (.ref it) 0 >>= _) _ _ s; refine wpAny_bind (wpAny_field ho hd (x := .ref l) rfl ?_)
  show wpAny _ _ (if (Value.ref l == Value.none) = true then _ else _) _ _ s; rw [if_neg (show ¬ ((Value.ref l == Value.none) = true) from Bool.false_ne_true)]
  show wpAny _ _ (field (.ref it) 1 >>= _) _ _ s; refine wpAny_bind (wpAny_field ho hd (x := .int i 0) rfl ?_)
  show wpAny _ _ (seqItems? (.ref l) >>= _) _ _ s; refine wpAny_bind (wpAny_seqItems hol hdl ?_)
  simp only [hx, Int.toNat_natCast]
  refine wpAny_bind (wpAny_rule (wpAny_bind (wpAny_setField ho hd (by simp) ?_))); show wpAny _ _ (newExc (.type "StopIteration") [] >>= _) _ _ _; refine wpAny_bind ?_
  simp only [newExc, newTuple]; refine wpAny_bind (wpAny_newObj_type ?_ (by size_fits))
  refine wpAny_bind (m := firstArgMember _ _) (wpAny_of_eq (a := Value.none) (by first | rfl | (simp only [firstArgMember]; rfl)) (wpAny_newObj_type ?_ (by size_fits)))
  have k1 := Heap.get?_push_of_some ({ cls := .type "tuple", data := .seq #[] } : Obj) ((Heap.get?_update_other s.heap (Obj.mapFields fun x => x.setIfInBounds 0 Value.none) (Ne.symm ne)).trans h1)
  refine raiseNew_hot ⟨hh, o1, vs1, Heap.get?_push_of_some _ k1, d1, c1⟩ (Nat.ne_of_lt (Heap.lt_size k1)) (Heap.get?_push_size _ rfl) rfl (by first | (simp; done) | (simp; omega) | (simp only [Array.size_append]; simp; omega)) ?_
  refine hE _ _ (fun b u hb e => ?_) ⟨_, Heap.get?_update_self _ (Heap.get?_push_size _ rfl) rfl, rfl⟩
  have k2 := Heap.get?_push_of_some ({ cls := .type "tuple", data := .seq #[] } : Obj) ((Heap.get?_update_other s.heap (Obj.mapFields fun x => x.setIfInBounds 0 Value.none) (Ne.symm hb)).trans e)
  rw [Heap.get?_update_other _ _ (Nat.ne_of_gt (Heap.lt_size k2))]
  exact Heap.get?_push_of_some _ k2
theorem zip_ends_hot {z TI TO i1 i2 l1 l2 x1 : Addr} {k1 : Nat} {xs : Array Value} {Q : Option Value → Shared → Prop} (hot : HotAt A x1 s.heap) (ne1 : x1 ≠ i1) (nez : x1 ≠ z) (D : ZipApart z TI TO i1 i2 l1 l2)
    (hz : IsZip s.heap z TI TO .none) (hTI : IsPair s.heap TI (.ref i1) (.ref i2)) (h1 : s.heap.IsListIter i1 l1 k1) (hl1 : s.heap.IsList l1 xs) (hend : xs[k1]? = none)
    (hQ : ∀ h', (∀ c o, c ≠ z → c ≠ i1 → s.heap.get? c = some o → h'.get? c = some o) → Q none { s with heap := h' }) : wpAny (model prog w) A (pyNext (.ref z)) Q E s := by
  have hT : s.TypeIs (.ref z) "zip" := ⟨_, hz, rfl⟩; obtain ⟨hh, o1, vs1, g1, d1, c1⟩ := id hot
  unfold pyNext
  refine wpAny_bind (wpAny_attempt (wpAny_callSpecial?_slot (name := Str.ofString "__next__") hT F.slot_zip_next (wpAny_call_entry F.slot_zip_next hT F.entry_zip_next ?_ (F.args_zip_next_1 _))))
  show wpAny _ _ (field (.ref z) 2 >>= _) _ _ _; refine wpAny_bind (wpAny_field hz rfl (x := .bool false) rfl ?_)
  show wpAny _ _ (field (.ref z) 3 >>= _) _ _ _; refine wpAny_bind (wpAny_field hz rfl (x := .ref TI) rfl (wpAny_bind (wpAny_seqItems hTI rfl ?_)))
  show wpAny _ _ (Builtin.SmallTypes.ownedTupleIsFree (.ref z) >>= _) _ _ _; refine wpAny_bind ?_
  unfold Builtin.SmallTypes.ownedTupleIsFree; refine wpAny_bind (wpAny_field hz rfl (x := .none) rfl (wpAny_pure ?_))
  simp only [if_true]; refine wpAny_bind (wpAny_rule (wpAny_bind (wpAny_field hz rfl (x := .ref TO) rfl (wpAny_bind (wpAny_setField_rec hz (by simp) fun h₁ hz1 s1 => ?_)))))
  have hz1 : IsZip h₁ z TI TO .ellipsis := hz1
  refine wpAny_bind ?_; simp only [List.zipIdx_cons, List.zipIdx_nil, List.forIn_cons, List.forIn_nil]
  refine wpAny_bind (wpAny_bind (wpAny_onRaise ?_)); show wpAny _ _ (Builtin.SmallTypes.nextOf (.ref i1) >>= _) _ _ _
  refine wpAny_bind (list_ends_hot ⟨hh, o1, vs1, s1.extBut _ _ nez g1, d1, c1⟩ ne1 (h1.extBut s1.extBut D.i1z) (hl1.extBut s1.extBut D.l1z) hend fun h2 e s2 ⟨oe, hoe, hce⟩ => ?_)
  have hz2 : IsZip h2 z TI TO .ellipsis := s2 _ _ D.i1z.symm hz1
  have hez : e ≠ z := fun x => by subst x; rw [hz2] at hoe; cases hoe; simp at hce
  refine wpAny_setField_rec hz2 (by simp) fun h3 _ s3 => ?_
  refine wpAny_bind (wpAny_isInstance (T := "StopIteration") (b := true) ⟨oe, s3.extBut _ _ hez hoe, hce⟩ isSubtype_stop (wpAny_pure (hQ _ fun c o n1 n2 x => s3.extBut _ _ n1 (s2 _ _ n2 (s1.extBut _ _ n1 x)))))
/-- a tuple's iterator ends there -/
theorem tup_ends_hot {it t x1 : Addr} {i : Nat} {xs : Array Value} {Q : Option Value → Shared → Prop} (hot : HotAt A x1 s.heap) (ne : x1 ≠ it) (hit : IsTupIter s.heap it t i) (ht : IsTup s.heap t xs) (hx : xs[i]? = none) (hQ : ∀ h', Heap.ExtBut it s.heap h' → Q none { s with heap := h' }) : wpAny (model prog w) A (pyNext (.ref it)) Q E s := by
  obtain ⟨o, ho, hc, hd⟩ := id hit; obtain ⟨ol, hol, _, nl, hdl⟩ := ht; obtain ⟨hh, o1, vs1, h1, d1, c1⟩ := hot
  unfold pyNext
  refine wpAny_bind (wpAny_attempt (wpAny_callSpecial?_slot (name := Str.ofString "__next__") hit.typeIs slot_tupleiter_next (wpAny_call_entry slot_tupleiter_next hit.typeIs entry_tupleiter_next ?_ (args_tupleiter_next _))))
  show wpAny _ _ (field (.ref it) 0 >>= _) _ _ s; refine wpAny_bind (wpAny_field ho hd (x := .ref t) rfl ?_)
  show wpAny _ _ (if (Value.ref t == Value.none) = true then _ else _) _ _ s; rw [if_neg (show ¬ ((Value.ref t == Value.none) = true) from Bool.false_ne_true)]
  show wpAny _ _ (field (.ref it) 1 >>= _) _ _ s; refine wpAny_bind (wpAny_field ho hd (x := .int i 0) rfl ?_)
  show wpAny _ _ (seqItems? (.ref t) >>= _) _ _ s; refine wpAny_bind (wpAny_seqItems hol hdl ?_)
  simp only [Int.toNat_natCast, hx]; refine wpAny_bind (wpAny_rule (wpAny_bind (wpAny_setField ho hd (by simp) ?_)))
  show wpAny _ _ (newExc (.type "StopIteration") [] >>= _) _ _ _; refine wpAny_bind ?_
  simp only [newExc, newTuple]; refine wpAny_bind (wpAny_newObj_type ?_ (by size_fits))
  refine wpAny_bind (m := firstArgMember _ _) (wpAny_of_eq (a := Value.none) (by first | rfl | (simp only [firstArgMember]; rfl)) (wpAny_newObj_type ?_ (by size_fits)))
  have k1 := Heap.get?_push_of_some ({ cls := .type "tuple", data := .seq #[] } : Obj) ((Heap.get?_update_other s.heap (Obj.mapFields fun x => x.setIfInBounds 0 Value.none) (Ne.symm ne)).trans h1)
  refine raiseNew_hot ⟨hh, o1, vs1, Heap.get?_push_of_some _ k1, d1, c1⟩ (Nat.ne_of_lt (Heap.lt_size k1)) (Heap.get?_push_size _ rfl) rfl (by first | (simp; done) | (simp; omega) | (simp only [Array.size_append]; simp; omega)) ?_
  refine wpAny_bind (wpAny_isInstance (T := "StopIteration") (b := true) ⟨_, Heap.get?_update_self _ (Heap.get?_push_size _ rfl) rfl, rfl⟩ isSubtype_stop (wpAny_pure (hQ _ fun b u hb e => ?_)))
  have k2 := Heap.get?_push_of_some ({ cls := .type "tuple", data := .seq #[] } : Obj) ((Heap.get?_update_other s.heap (Obj.mapFields fun x => x.setIfInBounds 0 Value.none) (Ne.symm hb)).trans e)
  exact (Heap.get?_update_other _ _ (Nat.ne_of_gt (Heap.lt_size k2))).trans (Heap.get?_push_of_some _ k2)
theorem unpack_hot {t x1 : Addr} {xs : Array Value} {ts : List (Bool × (Value → Sem Unit))} {Q : Unit → Shared → Prop} (hot : HotAt A x1 s.heap) (ht : IsTup s.heap t xs) (hn : ts.length = xs.size) (hs : ts.findIdx? (·.1) = none)
    (h : ∀ h', Heap.ExtBut s.heap.objs.size s.heap h' → wpAny (model prog w) A (assignInOrder (ts.map (·.2)) xs.toList) Q E { s with heap := h' }) : wpAny (model prog w) A (unpack (.ref t) ts) Q E s := by
  obtain ⟨hh, o1, vs1, g1, d1, c1⟩ := hot
  have lt : t ≠ s.heap.objs.size := by obtain ⟨o, ho, _⟩ := ht; exact Nat.ne_of_lt (Heap.lt_size ho)
  have lx : x1 ≠ s.heap.objs.size := Nat.ne_of_lt (Heap.lt_size g1)
  unfold unpack unpackItems; rw [hn, hs]
  refine wpAny_bind (wpAny_holding (wpAny_bind ?_)); unfold notIterableAtAll
  refine wpAny_bind (wpAny_specialOf ht.typeIs slot_tuple_iter.lookup (wpAny_pure ?_)); simp only [Bool.false_eq_true, if_false]
  refine wpAny_bind (wpAny_holding (iter_tuple ht ?_)); refine wpAny_bind (wpAny_holding (draw_tuple lt xs.size 0 _ _ ⟨_, Heap.get?_push_size _ rfl, rfl, rfl⟩ (ht.push _) (by omega) fun h1 i1 s1 => ?_))
  have all : List.take xs.size (List.drop 0 xs.toList) = xs.toList := by rw [List.drop_zero]; exact List.take_of_length_le (by simp)
  rw [all, if_neg (by simp)]
  have t1 : IsTup h1 t xs := (ht.push _).extBut s1.extBut lt
  refine wpAny_bind (wpAny_holding (tup_ends_hot (s := { s with heap := h1 }) ⟨hh, o1, vs1, s1.extBut _ _ lx (Heap.get?_push_of_some _ g1), d1, c1⟩ lx i1 t1 (by simp) fun h2 e2 => ?_))
  simp only [Bool.false_eq_true, Option.isSome_none, if_false]
  exact wpAny_pure (h h2 fun b o hb e => e2 b o hb (s1.extBut b o hb (Heap.get?_push_of_some _ e)))
end
/-- a target, where p is among the pins -/
structure PGP (X : Cx) (p : Addr × Obj) (tg : Expr) (t : TG) : Prop where
  run : ∀ (pins : List (Addr × Obj)) (s : Shared) (σ : L2.St) (H : Hp) (v : V) (u : Value) (Q : L2.St → Hp → Prop), p ∈ pins → Inv X pins σ H s → RelV v u → t v σ H Q → wpAny (model X.prog X.w) X.A (assign tg X.env u) (fun _ s' => ∃ σ' H', Inv X pins σ' H' s' ∧ Q σ' H') X.xe s
theorem pgp_tup {X : Cx} {p : Addr × Obj} {es : List Expr} {k : Nat} {t : TGs} {n : Nat} {pos : Pos} (hot : Hot1 X.A p) (h : PGs X es t) (hn : (assignEach es X.env).length = n := by rfl) (hs : (assignEach es X.env).findIdx? (·.1) = none := by rfl) : PGP X p (.Tuple es k pos) (gTup X.K n t) := by
  refine ⟨fun pins s σ H v u Q hp I r ⟨a, xs, e1, hq, hl, hw⟩ => ?_⟩
  subst e1; cases r
  rcases I.tuple hq with ⟨its, rv, ht, hz⟩
  obtain ⟨hh, v1, e1, c1⟩ := hot
  rw [assign_Tuple]
  refine wpAny_bind (wpAny_standAt (unpack_hot (x1 := p.1) ⟨hh, p.2, v1, (I.pin p (List.mem_append_right _ hp)).1, e1, c1⟩ ht (by simp [hn, ← hl, rv.length]) hs fun h' hx => ?_))
  exact h.run pins _ σ H xs _ Q (I.kept (t' := s.toks) fun b o e => hx b o (Nat.ne_of_lt (Heap.lt_size e)) e) (by simpa using rv) hw
/-- what is walked while the exception at p is handled -/
structure TurnP (P : Program) (w : World) (K : PySem.W.Frag) (tg : Expr) (J : It) (fp : List Addr) (it : Addr) (tn : Nat → Heap → Prop) (p : Addr × Obj) : Prop where
  mem : it ∈ fp
  obj : ∀ j hp, tn j hp → ∀ c ∈ fp, ∃ ob, hp.get? c = some ob ∧ ∀ v, ob.data ≠ .cell v
  keep : ∀ j g g', tn j g → (∀ c ∈ fp, ∀ ob, g.get? c = some ob → g'.get? c = some ob) → tn j g'
  item : ∀ (X : Cx), X.prog = P → X.w = w → X.K = K → ∀ (i : Nat) (pins : List (Addr × Obj)) (s : Shared) (σ : L2.St) (H : Hp) (E : Value → Shared → Prop), Inv X pins σ H s → (∀ b ∈ fp, FpOk X pins H b) → tn i s.heap → J.go i H → wpAny (model P w) X.A (pyNext (.ref it)) (fun r s1 => ∃ u, r = some u ∧ wpAny (model P w) X.A (letOwnedTupleGo tg (.ref it) u) (fun _ s2 => ∃ x H', Inv X pins σ H' s2 ∧ RelV x u ∧ J.yld i H x H' ∧ tn (i + 1) s2.heap ∧ ∀ b ∈ fp, H' b = none) E s1) E s
  done : ∀ (X : Cx), X.prog = P → X.w = w → X.K = K → Hot1 X.A p → ∀ (i : Nat) (pins : List (Addr × Obj)), p ∈ X.pn ++ pins → ∀ (s : Shared) (σ : L2.St) (H : Hp) (E : Value → Shared → Prop), Inv X pins σ H s → (∀ b ∈ fp, FpOk X pins H b) → tn i s.heap → J.stop i H → wpAny (model P w) X.A (pyNext (.ref it)) (fun r s1 => r = none ∧ Inv X pins σ H s1) E s
  self : ∀ (A1 : Around) (j : Nat) (s1 : Shared) (R E1 : Value → Shared → Prop), tn j s1.heap → R (.ref it) s1 → wpAny (model P w) A1 (pyIter (.ref it)) R E1 s1
abbrev ItzH (K : PySem.W.Frag) (a b : Addr) : It := ⟨(Itz K a b).go, (Itz K a b).yld, fun i H => ∃ xs ys : List V, SqL K H a xs ∧ SqL K H b ys ∧ xs.length ≤ i⟩
theorem turn_zipH {p : Addr × Obj} {P : Program} {w : World} {K : PySem.W.Frag} {elts : List Expr} {kk : Nat} {tpos : Pos} {a b z TI TO i1 i2 : Addr} (D : ZipApart z TI TO i1 i2 a b) :
    TurnP P w K (.Tuple elts kk tpos) (ItzH K a b) [z, TI, TO, i1, i2] z (fun i h => IsZip h z TI TO .none ∧ IsPair h TI (.ref i1) (.ref i2) ∧ (∃ x y, IsPair h TO x y) ∧ h.IsListIter i1 a i ∧ h.IsListIter i2 b i) p where
  mem := List.mem_cons_self
  obj := (turn_zip (P := P) (w := w) (K := K) (elts := elts) (kk := kk) (tpos := tpos) D).obj
  keep := (turn_zip (P := P) (w := w) (K := K) (elts := elts) (kk := kk) (tpos := tpos) D).keep
  item := by
    intro X hP hw hK i pins s σ H E I hf ⟨hz, hTI, ⟨x0, y0, hTO⟩, h1, h2⟩ ⟨xs, ys, x, y, sx, sy, gx, gy⟩
    subst hP hw hK
    obtain ⟨us, r1, p1, _⟩ := I.list sx; obtain ⟨vs, r2, p2, _⟩ := I.list sy
    obtain ⟨u, hu, ru⟩ := r1.get gx; obtain ⟨v, hv, rv⟩ := r2.get gy
    have zl : z < s.heap.objs.size := Heap.lt_size hz
    refine wpAny_pyNext_zip_item D hz hTI hTO h1 h2 p1.isList p2.isList (x := u) (y := v) (by simpa using hu) (by simpa using hv) fun h' z' TO' i1' i2' hT hsz hk => ⟨_, rfl, wpAny_letOwnedTupleGo_zip (s := { s with heap := h' }) z' fun h'' z'' sb => ?_⟩
    have gT : h''.get? s.heap.objs.size = some { cls := .type "tuple", data := .seq #[u, v] } := (sb.2 _ (Nat.ne_of_gt zl)).trans hT
    have J : Inv X pins σ (upd H s.heap.objs.size (.tup [x, y])) { s with heap := h'' } :=
      I.turnedNew (t' := s.toks) (ch := [z, TI, TO, i1, i2]) (fun c o hb q => (sb.2 c (fun q' => hb (by simp [q']))).trans (hk c o (fun q' => hb (by simp [q'])) (fun q' => hb (by simp [q'])) (fun q' => hb (by simp [q'])) (fun q' => hb (by simp [q'])) q)) hf (Nat.le_refl _) ⟨(by decide : 2 ≤ sizeLine), [u, v], .cons ru (.cons rv .nil), ⟨_, gT, rfl, _, rfl⟩⟩
    refine ⟨.ref s.heap.objs.size, _, J, rfl, ⟨_, x, y, rfl, I.hok.fresh (Nat.le_refl _), rfl, fun l hl => by rw [I.list_inj hl sx]; exact gx, fun l hl => by rw [I.list_inj hl sy]; exact gy⟩, ⟨z'', (sb.2 _ D.TIz).trans (hk _ _ D.TIz D.TITO D.TIi1 D.TIi2 hTI), ⟨u, v, (sb.2 _ D.TOz).trans TO'⟩, i1'.at fun o q => (sb.2 _ D.i1z).trans q, i2'.at fun o q => (sb.2 _ D.i2z).trans q⟩, fun c hc => ?_⟩
    have lt : c < s.heap.objs.size := by
      obtain ⟨_, e1, _⟩ := h1; obtain ⟨_, e2, _⟩ := h2
      simp only [List.mem_cons, List.not_mem_nil, or_false] at hc
      rcases hc with q | q | q | q | q <;> rw [q]
      · exact zl
      · exact Heap.lt_size hTI
      · exact Heap.lt_size hTO
      · exact Heap.lt_size e1
      · exact Heap.lt_size e2
    rw [upd_ne (Nat.ne_of_lt lt)]; exact (hf c hc).1
  done := by
    intro X hP hw hK ⟨hh, v1, e1, c1⟩ i pins hp s σ H E I hf ⟨hz, hTI, _, h1, h2⟩ ⟨xs, ys, sx, sy, hend⟩
    subst hP hw hK
    obtain ⟨us, r1, p1, _⟩ := I.list sx
    have pn := I.pin p hp
    have ap : ∀ c ∈ [z, TI, TO, i1, i2], p.1 ≠ c := fun c hcm => (hf c hcm).2.2.2.2.2 p hp
    refine zip_ends_hot ⟨hh, p.2, v1, pn.1, e1, c1⟩ (ap i1 (by simp)) (ap z (by simp)) D hz hTI h1 p1.isList (by have := r1.length; simp; omega) fun h' hk => ⟨rfl, I.turnedL (t' := s.toks) (ch := [z, TI, TO, i1, i2]) (fun c o hb q => hk c o (fun q' => hb (by simp [q'])) (fun q' => hb (by simp [q'])) q) hf⟩
  self := fun _ _ _ _ _ st q => wpAny_pyIter_zip st.1 q
/-- an iterator has come -/
structure PIP (X : Cx) (p : Addr × Obj) (tg iter : Expr) (wi : TI) : Prop where
  run : ∀ (pins : List (Addr × Obj)) (s : Shared) (σ : L2.St) (H : Hp) (R : It → Hp → Prop), Inv X pins σ H s → wi σ H R → wpAny (model X.prog X.w) X.A (eval iter X.env) (fun v s1 => wpAny (model X.prog X.w) X.A (pyIter v) (fun itv s2 =>
    ∃ (it : Addr) (fp : List Addr) (tn : Nat → Heap → Prop) (J : It) (H' : Hp), itv = .ref it ∧ Inv X pins σ H' s2 ∧ TurnP X.prog X.w X.K tg J fp it tn p ∧ tn 0 s2.heap ∧ (∀ b ∈ fp, FpOk X pins H' b) ∧ R J H') X.xe s1) X.xe s
section
variable {X : Cx} {p : Addr × Obj}
def iZipH (K : PySem.W.Frag) (ta : TA) : TI := fun σ H R => ta σ H fun vs H1 => ∃ a b xs ys, vs = [.ref a, .ref b] ∧ SqL K H1 a xs ∧ SqL K H1 b ys ∧ R (ItzH K a b) H1
theorem pi_zipH {e e2 : Expr} {ta : TA} {q pos tpos : Pos} {elts : List Expr} {kk : Nat} (hg : Gl X "zip") (hm : X.mg "zip" = none) (ha : PA X [e, e2] ta)
    (hs : starEach [e, e2] X.env = (false, eval e X.env) :: starEach [e2] X.env := by rfl) (hpl : (backTo pos (starEach [e2] X.env)).any (·.1) = false := by rfl) : PIP X p (.Tuple elts kk tpos) (.Call (.Name "zip" q) [e, e2] [] pos) (iZipH X.K ta) := by
  refine ⟨fun pins s σ H R I h => Call_ (ld_blt I hg hm PyProof.Rows.boot_zip (PyProof.Rows.callWith_type1 (thn (ha.run pos pins s σ H _ I h) fun us s1 ⟨vs, H1, I1, r1, a, b, xs, ys, ex, sx, sy, q⟩ => ?_) hs hpl))⟩
  subst ex
  cases r1 with
  | cons r rr =>
    cases rr with
    | cons r2 rr =>
      cases rr; cases r; cases r2
      obtain ⟨us, v1, p1, _⟩ := I1.list sx; obtain ⟨ws, v2, p2, _⟩ := I1.list sy
      refine call_zip_2 p1.isList p2.isList fun h' hz hTI hTO h1 h2 hsz hk => wpAny_pyIter_zip hz ?_; refine ⟨s1.heap.objs.size + 4, [s1.heap.objs.size + 4, s1.heap.objs.size + 2, s1.heap.objs.size + 3, s1.heap.objs.size, s1.heap.objs.size + 1], _, _, H1, rfl, I1.kept (t' := s1.toks) hk, turn_zipH (PySem.W.ktu_apart s1.heap.objs.size a b p1.lt p2.lt), ⟨hz, hTI, ⟨_, _, hTO⟩, h1, h2⟩, fun c hc => ?_, q⟩
      have le : s1.heap.objs.size ≤ c := by
        simp only [List.mem_cons, List.not_mem_nil, or_false] at hc
        rcases hc with z | z | z | z | z <;> rw [z] <;> first | exact Nat.le_refl _ | exact Nat.le_add_right _ _
      exact I1.fpOk le (I1.hok.fresh le)
/-- a list comprehension there -/
theorem pe_lcH {elt tg iter : Expr} {ifs : List Expr} {scope : Scope} {own : List (Str × Nat)} {pos : Pos} {wi : TI} {g : TG} {tt : TT} {te : TE} (hot : Hot1 X.A p) (hpn : p ∈ X.pn) (hN : X.N.Nodup) (hi : PIP X p tg iter wi) (ok : BlkOk X.N X.env.scope scope own)
    (hg : ∀ (s : Shared) (H : Hp) (C : Addr) (cl : List (Str × Addr)) (fp : List Addr), PGP (X.blk s H scope (compEnvC scope cl C X.env) fp) p tg g) (ht : ∀ (s : Shared) (H : Hp) (C : Addr) (cl : List (Str × Addr)) (fp : List Addr), PTs (X.blk s H scope (compEnvC scope cl C X.env) fp) ifs tt)
    (he : ∀ (s : Shared) (H : Hp) (C : Addr) (cl : List (Str × Addr)) (fp : List Addr), PE (X.blk s H scope (compEnvC scope cl C X.env) fp) elt te) (hs : ∀ x, foldedSetIterable iter X.env x = pure x := by intro _; rfl) : PE X (.ListComp elt [⟨tg, iter, ifs, 0⟩] scope pos) (tLc wi g tt te (own.map (·.2))) := by
  refine ⟨fun pins s σ H Q I h => ?_⟩
  rw [eval_ListComp]
  have fin : ∀ D C s' m H', Inv X pins σ H' s' → Q (.ref D) H' → s'.heap.Ns C m → FpOk X pins H' C → compPost (model X.prog X.w) X.A X.xe none (EP X pins σ Q) (.ref D) C (.ok .next) s' := fun D C s' m H' I' q hn ⟨f0, f1, f2, f3, f4, f5⟩ => ⟨m, hn, fun h'' sb => ⟨.ref D, H', I'.turned (t' := s'.toks) (fun b o hb e => (sb.2 b hb).trans e) f0 f1 f3 f4 f5, rfl, q⟩⟩
  refine wpAny_comprehension_free (use := none) rfl hs (closure_ok fun y hy e => I.ok.has _ (ok.free y hy e)) ok.kind (fun y hy e => by rw [← e]; exact ok.uniq y hy) (thn (hi.run pins s σ H _ I h) fun v1 s1 z => thn z fun v2 s2 ⟨it, fp, tn, J, H2, e, I2, U, t2, f2, q⟩ => ?_)
  subst e
  refine wpAny_newObj_type (newEnv_comp ?_) (by show 0 ≤ sizeLine; decide); obtain ⟨W, ⟨m0, w0⟩, turn⟩ := q s2.heap.objs.size (I2.hok.fresh (Nat.le_refl _))
  generalize hD : s2.heap.objs.size = D at w0 turn ⊢
  obtain ⟨sd, hsd⟩ : ∃ sd : Shared, sd = { s2 with heap := s2.heap.push { cls := .type "list", data := .seq ([] : List Value).toArray } } := ⟨_, rfl⟩
  have Id : Inv X pins σ (upd H2 D (.lst [])) sd := by rw [hsd, ← hD]; exact I2.laid (t' := s2.toks) (fun b o e => Heap.get?_push_of_some _ e) (Nat.le_refl _) ⟨Nat.zero_le _, [], 0, .nil, Heap.get?_push_size _ rfl⟩
  have hph : sd.heap = s2.heap.push { cls := .type "list", data := .seq ([] : List Value).toArray } := by rw [hsd]
  have fd : ∀ b ∈ fp, FpOk X pins (upd H2 D (.lst [])) b ∧ b < sd.heap.objs.size := fun b hb => by
    obtain ⟨ob, eb, _⟩ := U.obj _ _ t2 b hb
    have lt := Heap.lt_size eb
    refine ⟨⟨(upd_ne (by rw [← hD]; exact Nat.ne_of_lt lt)).trans (f2 b hb).1, (f2 b hb).2⟩, ?_⟩
    rw [hph, Heap.size_push]; exact Nat.lt_succ_of_lt lt
  have Ib := block_start Id ok hN fd
  have td : tn 0 sd.heap := U.keep _ _ _ t2 fun b _ o e => by rw [hph]; exact Heap.get?_push_of_some _ e
  generalize hcl : cellsFrom (sd.heap.objs.size + 1) scope.names (cloFrom X.env.cells scope.names []) = cl at Ib
  have pg := hg sd (upd H2 D (.lst [])) sd.heap.objs.size cl fp; have pt := ht sd (upd H2 D (.lst [])) sd.heap.objs.size cl fp; have pv := he sd (upd H2 D (.lst [])) sd.heap.objs.size cl fp
  have pnd := Id.pin p (List.mem_append_left _ hpn)
  have pst : p.1 ∉ frs X.stack := fun hm => (List.mem_cons.mp (Id.stkSub p.1 hm)).elim pnd.2.2.1 pnd.2.2.2.1
  generalize hHd : upd H2 D (.lst []) = Hd at *
  have go : codeAny (model X.prog X.w) X.A (.compStart (.ListComp elt [⟨tg, iter, ifs, 0⟩] scope pos) 0 (.ref it) (.ref D) (compEnvC scope cl sd.heap.objs.size X.env)) (compPost (model X.prog X.w) X.A X.xe none (EP X pins σ Q) (.ref D) sd.heap.objs.size) { sd with heap := pushCells (sd.heap.push { cls := .type "dict", data := .dict #[] }) scope.names } := by
    generalize hce : compEnvC scope cl sd.heap.objs.size X.env = ce at Ib pg pt pv ⊢
    have cloc : ce.locals = sd.heap.objs.size := by rw [← hce]; rfl
    generalize hsb : ({ sd with heap := pushCells (sd.heap.push { cls := .type "dict", data := .dict #[] }) scope.names } : Shared) = sb at Ib ⊢
    have tb : tn 0 sb.heap := U.keep _ _ _ td fun b _ o e => by rw [← hsb]; exact pushCells_keeps _ _ _ _ (Heap.get?_push_of_some _ e)
    have Ip : Inv (X.blk sd Hd scope ce fp) [p] (wipe σ (own.map (·.2))) Hd sb := Ib.pins_of fun z hz => by
      rw [List.mem_singleton.mp hz]
      exact ⟨by rw [← hsb]; exact pushCells_keeps _ _ _ _ (Heap.get?_push_of_some _ pnd.1), pnd.2.1, by show p.1 ≠ ce.locals; rw [cloc]; exact Nat.ne_of_lt (Heap.lt_size pnd.1), pst, pnd.2.2.2.2⟩
    have stays : ∀ {σ1 : L2.St} {H1 : Hp} {s1 : Shared}, Inv (X.blk sd Hd scope ce fp) [p] σ1 H1 s1 → (∀ b ∈ fp, H1 b = none) → ∀ b ∈ fp, FpOk (X.blk sd Hd scope ce fp) [p] H1 b := fun {_ _ _} J1 n1 b hb =>
      ⟨n1 b hb, (J1.ok.exf b hb).1, J1.ok.exfs b hb, .inl hb, fun x c e => (J1.ok.exf b hb).2 x c e, fun z hz => by
        rw [List.mem_singleton.mp (show z ∈ [p] from hz)]
        exact (fd b hb).1.2.2.2.2.2 p (List.mem_append_left _ hpn)⟩
    have run : codeAny (model X.prog X.w) X.A (.compLoop (.ListComp elt [⟨tg, iter, ifs, 0⟩] scope pos) 0 (.ref it) (.ref D) ce) (compPost (model X.prog X.w) X.A X.xe none (EP X pins σ Q) (.ref D) sd.heap.objs.size) sb := by
      refine compLoop_any (fun n s' => ∃ i H', Inv (X.blk sd Hd scope ce fp) [p] (wipe σ (own.map (·.2))) H' s' ∧ tn i s'.heap ∧ (∀ b ∈ fp, H' b = none) ∧ W i n H') (fun n s5 ⟨i, H5, I5, t5, n5, w5⟩ => ?_) m0 ⟨0, Hd, Ip, tb, fun b hb => (fd b hb).1.1, w0⟩
      rcases turn i n H5 w5 with ⟨z, qq⟩ | ⟨z, Nx, less, step⟩
      · refine thnF (U.done (X.blk sd Hd scope ce fp) rfl rfl rfl hot i [p] (by simp) s5 _ H5 (fun _ _ => False) I5 (stays I5 n5) t5 z) fun r s6 ⟨e6, I6⟩ => ?_
        subst e6
        have out : Inv X pins σ H5 s6 := Id.call' (ch := fp) I6.os I6.base I6.hok I6.bare fun b hb => ⟨(fd b hb).1.2.2.2.1, (fd b hb).1.2.1, (fd b hb).1.2.2.2.2.1, (fd b hb).1.2.2.2.2.2⟩
        obtain ⟨m, hm, _⟩ := I6.loc
        have hm : s6.heap.Ns ce.locals m := hm
        have nC : H5 ce.locals = none := I6.free
        rw [cloc] at hm nC
        exact fin D _ s6 m H5 out qq hm (Id.fpOk (Nat.le_refl _) nC)
      · refine thnF (U.item (X.blk sd Hd scope ce fp) rfl rfl rfl i [p] s5 _ H5 (fun _ _ => False) I5 (stays I5 n5) t5 z) fun r s6 ⟨u, e6, z6⟩ => ?_
        subst e6
        refine thnF z6 fun _ s7 ⟨x, H7, I7, r7, y7, t7, n7⟩ => thnF (pg.run _ s7 _ H7 x u _ (by simp) (I7.pinned (stays I7 n7) (U.obj _ _ t7)) r7 (step x H7 y7)) fun _ s8 ⟨σ8, H8, I8, e8, q8⟩ => thnF (pt.run _ s8 σ8 H8 _ I8 q8) fun b s9 ⟨H9, I9, q9⟩ => ?_
        have next : ∀ {s' : Shared} {H' : Hp}, Inv (X.blk sd Hd scope ce fp) ([p] ++ pinsAt fp s7.heap) σ8 H' s' → Nx H' → ∃ m, m < n ∧ ∃ i H', Inv (X.blk sd Hd scope ce fp) [p] (wipe σ (own.map (·.2))) H' s' ∧ tn i s'.heap ∧ (∀ b ∈ fp, H' b = none) ∧ W i m H' := fun {s' H'} Ie nx => by
          obtain ⟨m2, lt2, w2⟩ := less H' nx
          have pin : ∀ b ∈ fp, ∀ o, s7.heap.get? b = some o → s'.heap.get? b = some o ∧ H' b = none := fun b hb o e => ⟨(Ie.pin (b, o) (List.mem_append_right _ (List.mem_append_right _ (mem_pinsAt hb e)))).1, (Ie.pin (b, o) (List.mem_append_right _ (List.mem_append_right _ (mem_pinsAt hb e)))).2.1⟩
          refine ⟨m2, lt2, i + 1, H', (Ie.unpinned (pins := [p])).weak (by rw [← e8, wipe_length]) (fun j v e => ?_), U.keep _ _ _ t7 fun b hb o e => (pin b hb o e).1, fun b hb => ?_, w2⟩
          · rw [← e8] at e; exact (wipe_some e).1
          · obtain ⟨o, e, _⟩ := U.obj _ _ t7 b hb; exact (pin b hb o e).2
        cases b with
        | false => simp only [Bool.false_eq_true, if_false] at q9 ⊢; exact next I9 q9
        | true =>
          simp only [if_true] at q9 ⊢
          exact thnF (pv.run _ s9 σ8 H9 _ I9 q9) fun z s10 ⟨yv, H10, I10, r10, acc, hD10, hz10, nx⟩ => app_ok (X := X.blk sd Hd scope ce fp) I10 hD10 hz10 r10 fun s11 I11 => next I11 nx
    exact codeAny_compStart_list run (U.self X.A 0 _ _ _ tb run)
  rw [← hcl, hsd] at go
  exact go
end
end L3

/-! The mirrors: houses, stands, ticks as plain data. -/
namespace L3
open PySem PySem.Spec PyProof.Rows L2

inductive Deed where
  | no | off | on | opn | sht
  deriving DecidableEq
def Deed.s : Deed → Str
  | .no => ""
  | .off => "off"
  | .on => "on"
  | .opn => "open"
  | .sht => "shut"
inductive Wth where
  | cold | mild
  deriving DecidableEq
def Wth.s : Wth → Str
  | .cold => "cold"
  | .mild => "mild"
inductive Dev where
  | heater | window
  deriving DecidableEq
def Dev.s : Dev → Str
  | .heater => "heater"
  | .window => "window"
structure Line where
  tries : List Deed
  to : Nat
structure Page where
  c : Line
  h : Line
  w : Line
structure Pers where
  beat : Int
  low : Int
  high : Int
  book : List Page
structure House where
  top : Int
  heat : Int
  l0 : Int
  l1 : Int
  l2 : Int
  l3 : Int
  ws : List Wth
  a : Pers
  b : Pers
def lineD (l : Line) : D := .tup [.tup (l.tries.map fun d => D.str d.s), .int (.ofNat l.to)]
def pageD (p : Page) : D := .tup [lineD p.c, lineD p.h, lineD p.w]
def bookD (b : List Page) : D := .tup (b.map pageD)
def persD (p : Pers) : D := .tup [.int p.beat, .int p.low, .int p.high, bookD p.book]
def roomD (h : House) : D := .tup [.int h.top, .int h.heat, .tup [.int h.l0, .int h.l1, .int h.l2, .int h.l3]]
def wsD (h : House) : D := .tup (h.ws.map fun w => D.str w.s)
def houseD (h : House) : D := .tup [roomD h, wsD h, .tup [persD h.a, persD h.b]]

def House.per (h : House) : Bool → Pers
  | false => h.a
  | true => h.b
def Stand.pg (s : Stand) : Bool → Nat
  | false => s.p0
  | true => s.p1
def Stand.turn (s : Stand) : Bool → Nat → Stand
  | false, n => { s with p0 := n }
  | true, n => { s with p1 := n }
def whoI : Bool → Int
  | false => 0
  | true => 1
def Page.at (p : Page) : Nat → Line
  | 0 => p.c
  | 1 => p.h
  | _ => p.w
def feel (p : Pers) (lv : Int) : Nat := if lv < 2 * p.low then 0 else if 2 * p.high < lv then 1 else 2
def chg (dv : Bool × Bool) : Deed → Bool × Bool
  | .no => dv
  | .off => (false, dv.2)
  | .on => (true, dv.2)
  | .opn => (dv.1, true)
  | .sht => (dv.1, false)
def devD (dv : Bool × Bool) : D := .tup [.bl dv.1, .bl dv.2]
def firstC (dv : Bool × Bool) (ts : List Deed) : Deed := ((ts.filter fun d => decide (chg dv d ≠ dv)).head?).getD .no
def Pers.page (p : Pers) (n : Nat) : Page := (p.book[n]?).getD ⟨⟨[], 0⟩, ⟨[], 0⟩, ⟨[], 0⟩⟩
def lineOf (h : House) (s : Stand) (who : Bool) : Line := ((h.per who).page (s.pg who)).at (feel (h.per who) s.lv)
def deedOf (h : House) (s : Stand) (who : Bool) : Deed := firstC (s.ht, s.wd) (lineOf h s who).tries
def looksB (h : House) (s : Stand) (who : Bool) : Bool := decide (s.ph % (h.per who).beat = 0)
def lookS (h : House) (s : Stand) (who : Bool) : Stand :=
  if looksB h s who = true then
    Stand.turn { s with ht := (chg (s.ht, s.wd) (deedOf h s who)).1, wd := (chg (s.ht, s.wd) (deedOf h s who)).2 } who (lineOf h s who).to
  else s
def lookD (h : House) (s : Stand) (who : Bool) : Deed := if looksB h s who = true then deedOf h s who else .no
def House.loss (h : House) : Bool → Wth → Int
  | false, .mild => h.l0
  | false, .cold => h.l1
  | true, .mild => h.l2
  | true, .cold => h.l3
def gain (h : House) (s : Stand) (w : Wth) : Int := h.heat * bI s.ht - h.loss s.wd w
def period (h : House) : Int := max h.a.beat h.b.beat
def passS (h : House) (s : Stand) (w : Wth) : Stand := { s with lv := min (2 * h.top) (max 0 (s.lv + 2 * gain h s w)), ph := (s.ph + 1) % period h }
/-- ahead of the change -/
def midS (h : House) (s : Stand) : Stand := lookS h (lookS h s false) true
def deed0 (h : House) (s : Stand) : Deed := lookD h s false
def deed1 (h : House) (s : Stand) : Deed := lookD h (lookS h s false) true
def tickS (h : House) (s : Stand) (w : Wth) : Stand := passS h (midS h s) w
def pairD (h : House) (s : Stand) : D := .tup [.str (deed0 h s).s, .str (deed1 h s).s]
/-- a row of the graph -/
def rowD (h : House) (s : Stand) (w : Wth) : D := .tup [.str w.s, standD (tickS h s w), pairD h s, standD (midS h s)]

/-! ### what holds of a house, of a stand -/
structure Line.Ok (l : Line) (n : Nat) : Prop where
  no : ∀ d ∈ l.tries, d ≠ .no
  len : l.tries.length ≤ 2
  nd : l.tries.Nodup
  to : l.to < n
structure Page.Ok (p : Page) (n : Nat) : Prop where
  c : p.c.Ok n
  h : p.h.Ok n
  w : p.w.Ok n
structure Pers.Ok (p : Pers) (top : Int) : Prop where
  beat : p.beat = 1 ∨ p.beat = 2
  low : 0 ≤ p.low ∧ p.low ≤ p.high
  high : p.high ≤ top
  len : 1 ≤ p.book.length ∧ p.book.length ≤ 3
  book : ∀ q ∈ p.book, q.Ok p.book.length
structure House.Ok (h : House) : Prop where
  top : 2 ≤ h.top ∧ h.top ≤ 4
  heat : 1 ≤ h.heat ∧ h.heat ≤ 3
  l0 : 0 ≤ h.l0 ∧ h.l0 ≤ 3
  l1 : 0 ≤ h.l1 ∧ h.l1 ≤ 3
  l2 : 0 ≤ h.l2 ∧ h.l2 ≤ 3
  l3 : 0 ≤ h.l3 ∧ h.l3 ≤ 3
  ws : h.ws = [.cold] ∨ h.ws = [.mild] ∨ h.ws = [.cold, .mild]
  a : h.a.Ok h.top
  b : h.b.Ok h.top
structure Stand.Ok (s : Stand) (h : House) : Prop where
  lv : 0 ≤ s.lv ∧ s.lv ≤ 2 * h.top
  ph : 0 ≤ s.ph ∧ s.ph < period h
  p0 : s.p0 < h.a.book.length
  p1 : s.p1 < h.b.book.length
theorem House.Ok.per {h : House} (o : h.Ok) (who : Bool) : (h.per who).Ok h.top := by
  cases who
  · exact o.a
  · exact o.b
theorem Stand.Ok.pg {h : House} {s : Stand} (o : s.Ok h) (who : Bool) : s.pg who < (h.per who).book.length := by
  cases who
  · exact o.p0
  · exact o.p1
theorem Page.Ok.at {p : Page} {n : Nat} (o : p.Ok n) (i : Nat) : (p.at i).Ok n := by
  unfold Page.at
  split
  · exact o.c
  · exact o.h
  · exact o.w
theorem Pers.Ok.pageAt {p : Pers} {top : Int} (o : p.Ok top) {n : Nat} (hn : n < p.book.length) : p.book[n]? = some (p.page n) ∧ (p.page n).Ok p.book.length := by
  unfold Pers.page
  rw [List.getElem?_eq_getElem hn]
  exact ⟨rfl, o.book _ (List.getElem_mem hn)⟩
theorem lineOf_ok {h : House} {s : Stand} (o : h.Ok) (so : s.Ok h) (who : Bool) : (lineOf h s who).Ok (h.per who).book.length :=
  ((o.per who).pageAt (so.pg who)).2.at _
theorem period_pos {h : House} (o : h.Ok) : 1 ≤ period h ∧ period h ≤ 2 := by
  unfold period
  have h1 := o.a.beat
  have h2 := o.b.beat
  omega
theorem lookS_ok {h : House} {s : Stand} (o : h.Ok) (so : s.Ok h) (who : Bool) : (lookS h s who).Ok h := by
  have l := (lineOf_ok o so who).to
  unfold lookS
  split
  · cases who
    · exact ⟨so.lv, so.ph, l, so.p1⟩
    · exact ⟨so.lv, so.ph, so.p0, l⟩
  · exact so
theorem midS_ok {h : House} {s : Stand} (o : h.Ok) (so : s.Ok h) : (midS h s).Ok h := lookS_ok o (lookS_ok o so false) true
theorem passS_ok {h : House} {s : Stand} (o : h.Ok) (so : s.Ok h) (w : Wth) : (passS h s w).Ok h := by
  have p := period_pos o
  have t := o.top
  refine ⟨?_, ?_, so.p0, so.p1⟩
  · show 0 ≤ min (2 * h.top) (max 0 (s.lv + 2 * gain h s w)) ∧ min (2 * h.top) (max 0 (s.lv + 2 * gain h s w)) ≤ 2 * h.top
    omega
  · exact ⟨Int.emod_nonneg _ (by omega), Int.emod_lt_of_pos _ (by omega)⟩
theorem tickS_ok {h : House} {s : Stand} (o : h.Ok) (so : s.Ok h) (w : Wth) : (tickS h s w).Ok h := passS_ok o (midS_ok o so) w
theorem deed_inj {a b : Deed} (h : a.s = b.s) : a = b := by
  cases a <;> cases b <;> first | rfl | exact absurd h (by decide)
theorem gain_le {h : House} {s : Stand} (o : h.Ok) (w : Wth) : -3 ≤ gain h s w ∧ gain h s w ≤ 3 := by
  have h1 := o.heat
  have h2 := o.l0
  have h3 := o.l1
  have h4 := o.l2
  have h5 := o.l3
  unfold gain bI
  cases s.ht <;> cases s.wd <;> cases w <;> simp [House.loss] <;> omega
end L3

/-! Readings computed: the rewriting rules. -/
namespace L3
open PySem PySem.Spec PyProof.Rows L2
section
variable {M : Mm} {Q : QD} {ds es : List D} {i j : Int} {a b : Addr} {n : Nat} {C : Int → Int → Prop} {g : Int → Int → D} {s t : Stand} {x y : Str} {k l neg : Bool} {o : Obj} {kvs : List (Stand × D)} {d e : D}
theorem x_ixn : rIxD (.tup ds) (.int (.ofNat n)) M Q = ask ds[n]? (fun d => Q d M) := rfl
theorem x_ix0 : rIxD (.tup ds) (.int 0) M Q = ask ds[0]? (fun d => Q d M) := rfl
theorem x_ix1 : rIxD (.tup ds) (.int 1) M Q = ask ds[1]? (fun d => Q d M) := rfl
theorem x_ix2 : rIxD (.tup ds) (.int 2) M Q = ask ds[2]? (fun d => Q d M) := rfl
theorem x_ix3 : rIxD (.tup ds) (.int 3) M Q = ask ds[3]? (fun d => Q d M) := rfl
theorem x_ix4 : rIxD (.tup ds) (.int 4) M Q = ask ds[4]? (fun d => Q d M) := rfl
theorem x_lixn (h : M a = some (.lst ds)) : rIxD (.obj a) (.int (.ofNat n)) M Q = ask ds[n]? (fun d => Q d M) := by simp only [rIxD, h]
theorem x_lix0 (h : M a = some (.lst ds)) : rIxD (.obj a) (.int 0) M Q = ask ds[0]? (fun d => Q d M) := x_lixn (n := 0) h
theorem x_lix1 (h : M a = some (.lst ds)) : rIxD (.obj a) (.int 1) M Q = ask ds[1]? (fun d => Q d M) := x_lixn (n := 1) h
theorem x_lix2 (h : M a = some (.lst ds)) : rIxD (.obj a) (.int 2) M Q = ask ds[2]? (fun d => Q d M) := x_lixn (n := 2) h
theorem x_dix (h : M a = some (.dct o kvs)) : rIxD (.obj a) (standD s) M Q = ask (lk kvs s) (fun d => Q d M) := by simp only [rIxD, h, toStand_standD, ask_some]
theorem x_int : rInt C g (.int i) (.int j) M Q = (C i j ∧ Q (g i j) M) := rfl
theorem x_addi : rAddD (.int i) (.int j) M Q = Q (.int (i + j)) M := rfl
theorem x_addt : rAddD (.tup ds) (.tup es) M Q = (ds.length + es.length ≤ sizeLine ∧ Q (.tup (ds ++ es)) M) := rfl
theorem x_addl (h : M a = some (.lst ds)) (h' : M b = some (.lst es)) : rAddD (.obj a) (.obj b) M Q = (ds.length + es.length ≤ sizeLine ∧ ∀ p, M p = none → Q (.obj p) (mset M p (.lst (ds ++ es)))) := by simp only [rAddD, h, h']
theorem x_iaddi : rIAdd (.int i) (.int j) M Q = Q (.int (i + j)) M := rfl
theorem x_iaddl (h : M a = some (.lst ds)) (h' : M b = some (.lst es)) : rIAdd (.obj a) (.obj b) M Q = (ds.length + es.length ≤ sizeLine ∧ Q (.obj a) (mset M a (.lst (ds ++ es)))) := by simp only [rIAdd, h, h']
theorem x_eqi : rEqD false (.int i) (.int j) M Q = Q (.bl (decide (i = j))) M := rfl
theorem x_nei : rEqD true (.int i) (.int j) M Q = Q (.bl (!decide (i = j))) M := rfl
theorem x_eqs : rEqD false (.str x) (.str y) M Q = Q (.bl (decide (x = y))) M := rfl
theorem x_nes : rEqD true (.str x) (.str y) M Q = Q (.bl (!decide (x = y))) M := rfl
theorem x_eqb : rEqD false (.bl k) (.bl l) M Q = Q (.bl (decide (k = l))) M := rfl
theorem x_neb : rEqD true (.bl k) (.bl l) M Q = Q (.bl (!decide (k = l))) M := rfl
theorem eqv_stand (s t : Stand) : PyData.eqv (.tuple [.int s.lv, .bool s.ht, .bool s.wd, .int s.ph, .tuple [.int (.ofNat s.p0), .int (.ofNat s.p1)]]) (.tuple [.int t.lv, .bool t.ht, .bool t.wd, .int t.ph, .tuple [.int (.ofNat t.p0), .int (.ofNat t.p1)]]) = decide (s = t) := by
  by_cases h : s = t
  · subst h
    simp [PyData.eqv, PyData.eqvAll]
  · rw [decide_eq_false h]
    simp only [PyData.eqv, PyData.eqvAll, Bool.and_true, Bool.and_eq_false_iff, beq_eq_false_iff_ne, ne_eq]
    by_cases e1 : s.lv = t.lv
    · by_cases e2 : s.ht = t.ht
      · by_cases e3 : s.wd = t.wd
        · by_cases e4 : s.ph = t.ph
          · by_cases e5 : s.p0 = t.p0
            · by_cases e6 : s.p1 = t.p1
              · exact absurd (by cases s; cases t; simp only at e1 e2 e3 e4 e5 e6; rw [e1, e2, e3, e4, e5, e6]) h
              · exact .inr (.inr (.inr (.inr (.inr fun z => e6 (Int.ofNat.inj z)))))
            · exact .inr (.inr (.inr (.inr (.inl fun z => e5 (Int.ofNat.inj z)))))
          · exact .inr (.inr (.inr (.inl e4)))
        · exact .inr (.inr (.inl e3))
      · exact .inr (.inl e2)
    · exact .inl e1
theorem py_stand (s : Stand) : pyD M (standD s) = some (.tuple [.int s.lv, .bool s.ht, .bool s.wd, .int s.ph, .tuple [.int (.ofNat s.p0), .int (.ofNat s.p1)]]) := by
  simp [pyD, standD, pyT, pyTs]
theorem sh_stand (s : Stand) : SeqAt.shaped (.tuple [.int s.lv, .bool s.ht, .bool s.wd, .int s.ph, .tuple [.int (.ofNat s.p0), .int (.ofNat s.p1)]]) = true := by
  simp [SeqAt.shaped, PyData.canLay0, PyData.canLayAll0, PyData.depth, PyData.depthAll]
theorem x_eqst : rEqD false (standD s) (standD t) M Q = Q (.bl (decide (s = t))) M := by
  have e : rEqD false (standD s) (standD t) M Q = ask (pyD M (standD s)) fun d => ask (pyD M (standD t)) fun e => SeqAt.shaped d = true ∧ SeqAt.shaped e = true ∧ Q (.bl (PyData.eqv d e)) M := rfl
  rw [e, py_stand, py_stand, ask_some, ask_some, sh_stand, sh_stand, eqv_stand]
  simp
theorem eqv_dev (p q : Bool × Bool) : PyData.eqv (.tuple [.bool p.1, .bool p.2]) (.tuple [.bool q.1, .bool q.2]) = decide (p = q) := by
  obtain ⟨p1, p2⟩ := p
  obtain ⟨q1, q2⟩ := q
  cases p1 <;> cases p2 <;> cases q1 <;> cases q2 <;> rfl
theorem x_nedev {p q : Bool × Bool} : rEqD true (.tup [.bl p.1, .bl p.2]) (.tup [.bl q.1, .bl q.2]) M Q = Q (.bl (decide (p ≠ q))) M := by
  have e : rEqD true (.tup [.bl p.1, .bl p.2]) (.tup [.bl q.1, .bl q.2]) M Q = (SeqAt.shaped (.tuple [.bool p.1, .bool p.2]) = true ∧ SeqAt.shaped (.tuple [.bool q.1, .bool q.2]) = true ∧ Q (.bl (!PyData.eqv (.tuple [.bool p.1, .bool p.2]) (.tuple [.bool q.1, .bool q.2]))) M) := by
    simp [rEqD, pyD, pyT, pyTs, ask]
  rw [e, eqv_dev, show (decide (p ≠ q)) = !decide (p = q) by simp]
  simp [SeqAt.shaped, PyData.canLay0, PyData.canLayAll0, PyData.depth, PyData.depthAll]
theorem x_isn : rIsN false d .non M Q = Q (.bl (isN d)) M := rfl
theorem x_notn : rIsN true d .non M Q = Q (.bl (!isN d)) M := rfl
theorem x_int_d (h : M a = some (.dct o kvs)) : rInD false (standD s) (.obj a) M Q = Q (.bl (lk kvs s).isSome) M := by simp [rInD, h, toStand_standD, ask_some]
theorem x_nin_d (h : M a = some (.dct o kvs)) : rInD true (standD s) (.obj a) M Q = Q (.bl (!(lk kvs s).isSome)) M := by simp [rInD, h, toStand_standD, ask_some]
theorem x_int_t : rInD false d (.tup ds) M Q = ask (toV d) fun v => ask (toVs ds) fun vs => Q (.bl (inV v vs)) M := rfl
theorem x_nin_t : rInD true d (.tup ds) M Q = ask (toV d) fun v => ask (toVs ds) fun vs => Q (.bl (!inV v vs)) M := rfl
theorem x_setd {v : D} {R : Mm → Prop} (h : M a = some (.dct o kvs)) : rSet (.obj a) (standD s) v M R = (lk kvs s = none ∧ kvs.length < sizeLine ∧ ∀ ob', R (mset M a (.dct ob' (kvs ++ [(s, v)])))) := by simp only [rSet, h, toStand_standD, ask_some]
theorem x_len_t : rLen [.tup ds] M Q = Q (.int ds.length) M := rfl
theorem x_len_l (h : M a = some (.lst ds)) : rLen [.obj a] M Q = Q (.int ds.length) M := by simp only [rLen, h]
theorem x_i2 {f : Int → Int → Int} : rI2 f [.int i, .int j] M Q = Q (.int (f i j)) M := rfl
theorem x_toi : rToInt [.int i] M Q = Q (.int i) M := rfl
theorem x_tob : rToInt [.bl k] M Q = Q (.int (bI k)) M := rfl
theorem cm2 {z : Int} : CMul 2 z := .inl (by decide)
theorem line2 {n : Nat} (h : n ≤ 1000000) : n ≤ sizeLine := Nat.le_trans h (by decide)
theorem line3 {n : Nat} (h : n ≤ 1000000) : n < sizeLine := Nat.lt_of_le_of_lt h (by decide)
theorem cut13 {a b c d e : D} : cutD [a, b, c, d, e] (some 1) (some 3) = [b, c] := rfl
/-! folded data -/
theorem s_ix0 : rIxD (standD s) (.int 0) M Q = Q (.int s.lv) M := rfl
theorem s_ix1 : rIxD (standD s) (.int 1) M Q = Q (.bl s.ht) M := rfl
theorem s_ix2 : rIxD (standD s) (.int 2) M Q = Q (.bl s.wd) M := rfl
theorem s_ix3 : rIxD (standD s) (.int 3) M Q = Q (.int s.ph) M := rfl
theorem s_ix4 : rIxD (standD s) (.int 4) M Q = Q (.tup [.int (.ofNat s.p0), .int (.ofNat s.p1)]) M := rfl
theorem s_as {a b c d e : Nat} : asT [a, b, c, d, e] (standD s) = some [(a, .int s.lv), (b, .bl s.ht), (c, .bl s.wd), (d, .int s.ph), (e, .tup [.int (.ofNat s.p0), .int (.ofNat s.p1)])] := rfl
theorem s_cut : rSl (some 1) (some 3) (standD s) M Q = Q (.tup [.bl s.ht, .bl s.wd]) M := rfl
theorem x_as2 {a b : Nat} {x y : D} : asT [a, b] (.tup [x, y]) = some [(a, x), (b, y)] := rfl
theorem x_as3 {a b c : Nat} {x y z : D} : asT [a, b, c] (.tup [x, y, z]) = some [(a, x), (b, y), (c, z)] := rfl
theorem x_it {R : Src → Mm → Prop} : rIT (.tup ds) M R = R (srcC ds) M := rfl
theorem x_itw {h : House} {R : Src → Mm → Prop} : rIT (wsD h) M R = R (srcC (h.ws.map fun w => D.str w.s)) M := rfl
theorem x_il {R : Src → Mm → Prop} (h : M a = some (.lst ds)) : rIL (.obj a) M R = R (srcL a) M := by simp [rIL, isL, h]
theorem x_ik {R : Src → Mm → Prop} (h : M a = some (.dct o kvs)) : rIK (.obj a) M R = R (srcK a o) M := by simp [rIK, h]
theorem x_pop (h : M a = some (.lst ds)) : rPopD (.obj a) M Q = ask ds[ds.length - 1]? fun d => Q d (mset M a (.lst ds.dropLast)) := by simp [rPopD, h]
theorem x_app (h : M a = some (.lst ds)) : rApp (.obj a) e M Q = (ds.length < sizeLine ∧ Q .non (mset M a (.lst (ds ++ [e])))) := by simp [rApp, h]
theorem x_isl (h : M a = some (.lst ds)) : isL M (.obj a) = True := by simp [isL, h]
theorem g_cons {Γ : Ge} {i : Nat} {d : D} {r : Sets} : setG Γ ((i, d) :: r) = setG (Γ.set i (some d)) r := rfl
theorem g_nil {Γ : Ge} : setG Γ [] = Γ := rfl
theorem who_f : whoI false = 0 := rfl
theorem who_t : whoI true = 1 := rfl
theorem h_ix0 {h : House} : rIxD (houseD h) (.int 0) M Q = Q (roomD h) M := rfl
theorem h_ix1 {h : House} : rIxD (houseD h) (.int 1) M Q = Q (wsD h) M := rfl
theorem h_ix2 {h : House} : rIxD (houseD h) (.int 2) M Q = Q (.tup [persD h.a, persD h.b]) M := rfl
theorem r_ix0 {h : House} : rIxD (roomD h) (.int 0) M Q = Q (.int h.top) M := rfl
theorem r_ix1 {h : House} : rIxD (roomD h) (.int 1) M Q = Q (.int h.heat) M := rfl
theorem r_ix2 {h : House} : rIxD (roomD h) (.int 2) M Q = Q (.tup [.int h.l0, .int h.l1, .int h.l2, .int h.l3]) M := rfl
theorem r_as {h : House} {a b c : Nat} : asT [a, b, c] (roomD h) = some [(a, .int h.top), (b, .int h.heat), (c, .tup [.int h.l0, .int h.l1, .int h.l2, .int h.l3])] := rfl
theorem h_as {h : House} {a b c : Nat} : asT [a, b, c] (houseD h) = some [(a, roomD h), (b, wsD h), (c, .tup [persD h.a, persD h.b])] := rfl
theorem p_ix0 {p : Pers} : rIxD (persD p) (.int 0) M Q = Q (.int p.beat) M := rfl
theorem p_ix1 {p : Pers} : rIxD (persD p) (.int 1) M Q = Q (.int p.low) M := rfl
theorem p_ix2 {p : Pers} : rIxD (persD p) (.int 2) M Q = Q (.int p.high) M := rfl
theorem p_ix3 {p : Pers} : rIxD (persD p) (.int 3) M Q = Q (bookD p.book) M := rfl
theorem l_as {l : Line} {a b : Nat} : asT [a, b] (lineD l) = some [(a, .tup (l.tries.map fun d => D.str d.s)), (b, .int (.ofNat l.to))] := rfl
theorem pg_ix {p : Page} {n : Nat} (h : n < 3) : rIxD (pageD p) (.int (.ofNat n)) M Q = Q (lineD (p.at n)) M := by
  match n, h with
  | 0, _ => rfl
  | 1, _ => rfl
  | 2, _ => rfl
theorem bk_ix {b : List Page} {n : Nat} {p : Page} (h : b[n]? = some p) : rIxD (bookD b) (.int (.ofNat n)) M Q = Q (pageD p) M := by
  unfold bookD
  rw [x_ixn, List.getElem?_map, h]
  rfl
theorem feel_lt (p : Pers) (lv : Int) : feel p lv < 3 := by
  unfold feel
  split
  · decide
  · split <;> decide
theorem sl0 : (0 ≤ sizeLine) = True := eq_true (by decide)
theorem sl1 : (1 ≤ sizeLine) = True := eq_true (by decide)
theorem sl2 : (2 ≤ sizeLine) = True := eq_true (by decide)
theorem sl3 : (3 ≤ sizeLine) = True := eq_true (by decide)
theorem sl4 : (4 ≤ sizeLine) = True := eq_true (by decide)
theorem sl5 : (5 ≤ sizeLine) = True := eq_true (by decide)
theorem sl6 : (6 ≤ sizeLine) = True := eq_true (by decide)
theorem d_no (d : Deed) : (d.s = Str.ofString "") = (d = .no) := by cases d <;> simp only [Deed.s, reduceCtorEq, eq_iff_iff, iff_false, iff_true] <;> decide +kernel
theorem d_on (d : Deed) : (d.s = Str.ofString "on") = (d = .on) := by cases d <;> simp only [Deed.s, reduceCtorEq, eq_iff_iff, iff_false, iff_true] <;> decide +kernel
theorem d_off (d : Deed) : (d.s = Str.ofString "off") = (d = .off) := by cases d <;> simp only [Deed.s, reduceCtorEq, eq_iff_iff, iff_false, iff_true] <;> decide +kernel
theorem d_open (d : Deed) : (d.s = Str.ofString "open") = (d = .opn) := by cases d <;> simp only [Deed.s, reduceCtorEq, eq_iff_iff, iff_false, iff_true] <;> decide +kernel
theorem d_shut (d : Deed) : (d.s = Str.ofString "shut") = (d = .sht) := by cases d <;> simp only [Deed.s, reduceCtorEq, eq_iff_iff, iff_false, iff_true] <;> decide +kernel
theorem d_on' (d : Deed) : (Str.ofString "on" = d.s) = (d = .on) := by rw [← d_on]; exact propext eq_comm
theorem d_off' (d : Deed) : (Str.ofString "off" = d.s) = (d = .off) := by rw [← d_off]; exact propext eq_comm
theorem d_open' (d : Deed) : (Str.ofString "open" = d.s) = (d = .opn) := by rw [← d_open]; exact propext eq_comm
theorem d_shut' (d : Deed) : (Str.ofString "shut" = d.s) = (d = .sht) := by rw [← d_shut]; exact propext eq_comm
theorem d_no' (d : Deed) : (Str.ofString "" = d.s) = (d = .no) := by rw [← d_no]; exact propext eq_comm
theorem w_cold (d : Wth) : (d.s = Str.ofString "cold") = (d = .cold) := by cases d <;> simp only [Wth.s, reduceCtorEq, eq_iff_iff, iff_false, iff_true] <;> decide +kernel
theorem w_cold' (d : Wth) : (Str.ofString "cold" = d.s) = (d = .cold) := by rw [← w_cold]; exact propext eq_comm
theorem v_heat (d : Dev) : (d.s = Str.ofString "heater") = (d = .heater) := by cases d <;> simp only [Dev.s, reduceCtorEq, eq_iff_iff, iff_false, iff_true] <;> decide +kernel
theorem inV_two (x y z : Str) : inV (.str x) [.str y, .str z] = (decide (y = x) || decide (z = x)) := by
  unfold inV
  simp only [List.any_cons, List.any_nil, eqV_str, Bool.or_false]
end

/-! ### comprehensions whose turns are plain -/
section
variable {src : Src} {as : D → Option Sets} {tt : DTT} {te : DTE} {vs : List Nat} {Γ : Ge} {M1 : Mm} {Q : QD}
def lcBody (src : Src) (as : D → Option Sets) (tt : DTT) (te : DTE) (vs : List Nat) (Γ : Ge) (M1 : Mm) (Q : QD) : Prop := ∀ a, M1 a = none → ∃ (ds : List D) (W : Nat → Mm → Prop), (∀ i M', W i M' → src M' ds) ∧ W 0 (mset M1 a (.lst [])) ∧
  (∀ i d M', ds[i]? = some d → W i M' → ask (as d) fun sets => (∀ p ∈ sets, p.1 ∈ vs) ∧ tt (setG (wipeG Γ vs) sets) M' fun b M2 => if b = true then te (setG (wipeG Γ vs) sets) M2 fun y M3 => match M3 a with
      | some (.lst acc) => acc.length < sizeLine ∧ W (i + 1) (mset M3 a (.lst (acc ++ [y])))
      | _ => False
    else W (i + 1) M2) ∧ ∀ M', W ds.length M' → Q (.obj a) M'
theorem dLc_eq {ti : DTI} {M : Mm} : dLc ti as tt te vs Γ M Q = ti Γ M fun src M1 => lcBody src as tt te vs Γ M1 Q := rfl
/-- one turn: what it gives, and that it leaves the heap -/
def LcEl (as : D → Option Sets) (tt : DTT) (te : DTE) (vs : List Nat) (Γ : Ge) (M : Mm) (d : D) (r : Option D) : Prop := ∀ R : Option D → Mm → Prop, R r M →
  ask (as d) fun sets => (∀ p ∈ sets, p.1 ∈ vs) ∧ tt (setG (wipeG Γ vs) sets) M fun b M2 => if b = true then te (setG (wipeG Γ vs) sets) M2 fun y M3 => R (some y) M3 else R none M2
theorem lc_pure (ds : List D) (el : D → Option D) (hs : ∀ a acc, M1 a = none → src (mset M1 a (.lst acc)) ds) (hl : ds.length < sizeLine) (he : ∀ a acc d, M1 a = none → d ∈ ds → LcEl as tt te vs Γ (mset M1 a (.lst acc)) d (el d))
    (hq : ∀ a, M1 a = none → Q (.obj a) (mset M1 a (.lst (ds.filterMap el)))) : lcBody src as tt te vs Γ M1 Q := by
  intro a ha
  refine ⟨ds, fun i M' => i ≤ ds.length ∧ M' = mset M1 a (.lst ((ds.take i).filterMap el)), fun i M' h => by rw [h.2]; exact hs a _ ha, ⟨Nat.zero_le _, rfl⟩, fun i d M' hd ⟨hi, e⟩ => ?_, fun M' ⟨_, e⟩ => ?_⟩
  · subst e
    have hlt : i < ds.length := (List.getElem?_eq_some_iff.mp hd).1
    have et : ds.take (i + 1) = ds.take i ++ [d] := by rw [List.take_add_one, hd]; rfl
    have key := he a ((ds.take i).filterMap el) d ha (List.mem_of_getElem? hd) (fun o M3 => match o with
      | some y => (match M3 a with
        | some (.lst acc) => acc.length < sizeLine ∧ (i + 1 ≤ ds.length ∧ mset M3 a (.lst (acc ++ [y])) = mset M1 a (.lst ((ds.take (i + 1)).filterMap el)))
        | _ => False)
      | none => i + 1 ≤ ds.length ∧ M3 = mset M1 a (.lst ((ds.take (i + 1)).filterMap el)))
    refine key ?_
    rw [et, List.filterMap_append]
    cases h : el d with
    | none =>
      refine ⟨hlt, ?_⟩
      rw [List.filterMap_cons, h]
      simp
    | some y =>
      simp only [mset_same]
      refine ⟨Nat.lt_of_le_of_lt (Nat.le_trans (List.length_filterMap_le _ _) (by rw [List.length_take]; omega)) hl, hlt, ?_⟩
      rw [mset_mset, List.filterMap_cons, h]
      simp
  · subst e
    rw [List.take_length]
    exact hq a ha
theorem srcC_ok {ds : List D} : ∀ a acc, M1 a = none → srcC ds (mset M1 a (.lst acc)) ds := fun _ _ _ => rfl
theorem srcL_ok {l : Addr} {ds : List D} (h : M1 l = some (.lst ds)) : ∀ a acc, M1 a = none → srcL l (mset M1 a (.lst acc)) ds := fun a acc ha => by
  unfold srcL
  rw [mset_ne (mne h ha)]
  exact h
theorem srcK_ok {l : Addr} {o : Obj} {kvs : List (Stand × D)} (h : M1 l = some (.dct o kvs)) : ∀ a acc, M1 a = none → srcK l o (mset M1 a (.lst acc)) (kvs.map fun p => standD p.1) := fun a acc ha => by
  refine ⟨kvs, ?_, rfl⟩
  rw [mset_ne (mne h ha)]
  exact h
def forBody (src : Src) (as : D → Option Sets) (tb : DTS) (En : DEn) (Γ : Ge) (M1 : Mm) : Prop := ∃ (ds : List D) (W : Nat → Ge → Mm → Prop), (∀ i Γ' M', W i Γ' M' → src M' ds) ∧ W 0 Γ M1 ∧
  (∀ i d Γ' M', ds[i]? = some d → W i Γ' M' → ask (as d) fun sets => tb { En with nx := W (i + 1), ct := W (i + 1), bk := En.nx } (setG Γ' sets) M') ∧ ∀ Γ' M', W ds.length Γ' M' → En.nx Γ' M'
theorem dFor_eq {ti : DTI} {M : Mm} {tb : DTS} {En : DEn} : dFor ti as tb En Γ M = ti Γ M fun src M1 => forBody src as tb En Γ M1 := rfl
end
end L3

/-! Readings by steps: one rule at the head, never behind what is not known. -/
namespace L3
open PySem PySem.Spec PyProof.Rows L2
theorem fin.new {Q : QD} {d : D} {M : Mm} {p : Addr} {o : MO} (hp : M p = none) (h : fin Q d M) : fin Q d (mset M p o) := let ⟨M0, l, q⟩ := h; ⟨M0, l.tr (Le.new hp), q⟩
theorem mneN {M : Mm} {a p : Addr} {o : MO} (hp : mset M a o p = none) : p ≠ a := fun e => by rw [e, mset_same] at hp; cases hp
theorem mnone {M : Mm} {a p : Addr} {o : MO} (hp : mset M a o p = none) : M p = none := by rw [mset_ne (mneN hp)] at hp; exact hp
def asB (x : D) (k : Bool → Prop) : Prop := match x with
  | .bl b => k b
  | _ => False
def ixo : D → D → Option D
  | .tup ds, .int (.ofNat n) => ds[n]?
  | _, _ => none
section
variable {ta tb tc : DTE} {tr : DTA} {uA uB : DTT} {ti ti1 : DTI} {t u : DTS} {r r' : DR2} {rc : DRA} {Γ : Ge} {M : Mm} {Q : QD} {Qt : Bool → Mm → Prop} {Ql : List D → Mm → Prop} {En : DEn} {R : Src → Mm → Prop} {i j l n : Nat} {d e x y : D} {ds es : List D}
  {as as1 : D → Option Sets} {sets : Sets} {b k : Bool} {a c : Addr} {o : Obj} {kvs : List (Stand × D)} {C : Int → Int → Prop} {g : Int → Int → D} {p q : Int} {s : Stand} {neg : Bool} {sp : DSp} {E : DEX} {vs vs1 : List Nat} {tt tt1 : DTT} {te : DTE} {lo hi : Option Int} {X Y : Prop}
-- statements
theorem k_seq (h : t { En with nx := u En } Γ M) : dSeq t u En Γ M := h
theorem k_seqN {Γ' : Ge} (e : Γ = Γ') (h : t { En with nx := u En } Γ' M) : dSeq t u En Γ M := by rw [e]; exact h
theorem k_retN {Γ' : Ge} (e : Γ = Γ') (h : ta Γ' M En.rt) : dRet ta En Γ M := by rw [e]; exact h
theorem k_ifS (h : uA Γ M fun b M1 => if b = true then t En Γ M1 else u En Γ M1) : dIfS uA t u En Γ M := h
theorem k_ret (h : ta Γ M En.rt) : dRet ta En Γ M := h
theorem k_next (h : En.nx Γ M) : dNext En Γ M := h
theorem k_drop (h : ta Γ M fun _ M1 => En.nx Γ M1) : dDrop ta En Γ M := h
theorem k_set (h : ta Γ M fun d M1 => En.nx (Γ.set i (some d)) M1) : dSet i ta En Γ M := h
theorem k_asg (h : ta Γ M fun d M1 => ask (as d) fun sets => En.nx (setG Γ sets) M1) : dAsg ta as En Γ M := h
theorem k_sub (h : ta Γ M fun v M1 => tb Γ M1 fun o M2 => tc Γ M2 fun i M3 => rSet o i v M3 fun M4 => En.nx Γ M4) : dSub ta tb tc En Γ M := h
def asP (i j : Nat) (Γ : Ge) (ds : List D) (k : Ge → Prop) : Prop := match ds with
  | [a, b] => k ((Γ.set i (some a)).set j (some b))
  | _ => False
theorem k_par (h : tr Γ M fun ds M1 => asP i j Γ ds fun Γ' => En.nx Γ' M1) : dPar i j tr En Γ M := h
theorem k_asP {k : Ge → Prop} (h : k ((Γ.set i (some x)).set j (some y))) : asP i j Γ [x, y] k := h
def asP3 (i j l : Nat) (Γ : Ge) (ds : List D) (k : Ge → Prop) : Prop := match ds with
  | [a, b, c] => k (((Γ.set i (some a)).set j (some b)).set l (some c))
  | _ => False
theorem k_par3 (h : tr Γ M fun ds M1 => asP3 i j l Γ ds fun Γ' => En.nx Γ' M1) : dPar3 i j l tr En Γ M := h
theorem k_asP3 {k : Ge → Prop} {z : D} (h : k (((Γ.set i (some x)).set j (some y)).set l (some z))) : asP3 i j l Γ [x, y, z] k := h
theorem k_aug (h : ask (Γ.getD i none) fun x => ta Γ M fun y M1 => rIAdd x y M1 fun z M2 => En.nx (Γ.set i (some z)) M2) : dAug i ta En Γ M := h
theorem k_for (h : ti Γ M fun src M1 => forBody src as t En Γ M1) : dFor ti as t En Γ M := h
-- tests
theorem k_B (h : ta Γ M fun x M1 => asB x fun k => Qt k M1) : dB ta Γ M Qt := h
theorem k_asB {K : Bool → Prop} (h : K b) : asB (.bl b) K := h
theorem k_and (h : uA Γ M fun k M1 => if k = true then uB Γ M1 Qt else Qt false M1) : dAnd uA uB Γ M Qt := h
theorem k_or (h : uA Γ M fun k M1 => if k = true then Qt true M1 else uB Γ M1 Qt) : dOr uA uB Γ M Qt := h
theorem k_not (h : uA Γ M fun k M1 => Qt (!k) M1) : dNot uA Γ M Qt := h
theorem k_andV (h : ta Γ M fun x M1 => asB x fun k => if k = true then tb Γ M1 Q else Q (.bl false) M1) : dAndV ta tb Γ M Q := h
theorem k_orV (h : ta Γ M fun x M1 => asB x fun k => if k = true then Q (.bl true) M1 else tb Γ M1 Q) : dOrV ta tb Γ M Q := h
theorem k_notV (h : ta Γ M fun x M1 => asB x fun k => Q (.bl (!k)) M1) : dNotV ta Γ M Q := h
theorem k_chain (h : ta Γ M fun x M1 => tb Γ M1 fun y M2 => r x y M2 fun z M3 => asB z fun k => if k = true then tc Γ M3 fun u M4 => r' y u M4 Q else Q (.bl false) M3) : dChain r r' ta tb tc Γ M Q := h
theorem k_yes (h : Qt true M) : dYes Γ M Qt := h
theorem k_if (h : uA Γ M fun k M1 => if k = true then ta Γ M1 Q else tb Γ M1 Q) : dIf uA ta tb Γ M Q := h
theorem k_t (h : k = true) (q : X) : if k = true then X else Y := by rw [if_pos h]; exact q
theorem k_f (h : k = false) (q : Y) : if k = true then X else Y := by rw [if_neg (by rw [h]; exact Bool.false_ne_true)]; exact q
-- expressions
theorem k_var (h : Γ.getD i none = some d) (q : Q d M) : dVar i Γ M Q := by unfold dVar; rw [h]; exact q
theorem k_c (q : Q d M) : dC d Γ M Q := q
theorem k_op (h : ta Γ M fun x M1 => tb Γ M1 fun y M2 => r x y M2 Q) : dOp r ta tb Γ M Q := h
theorem k_nil (h : Ql [] M) : dNil Γ M Ql := h
theorem k_cons (h : ta Γ M fun x M1 => tr Γ M1 fun xs M2 => Ql (x :: xs) M2) : dCons ta tr Γ M Ql := h
theorem k_tup (h : tr Γ M fun ds M1 => ds.length ≤ sizeLine ∧ Q (.tup ds) M1) : dTup tr Γ M Q := h
theorem k_lst (h : tr Γ M fun ds M1 => ds.length ≤ sizeLine ∧ ∀ p, M1 p = none → Q (.obj p) (mset M1 p (.lst ds))) : dLst tr Γ M Q := h
theorem sl_s (h : n ≤ 12) (q : X) : n ≤ sizeLine ∧ X := ⟨Nat.le_trans h (by decide), q⟩
theorem k_call (h : tr Γ M fun ds M1 => rc ds M1 Q) : dCall rc tr Γ M Q := h
theorem k_fn (h : tr Γ M fun ds M1 => sp ds M1 Q fun _ _ => False) : dFn sp tr Γ M Q := h
theorem k_sl (h : ta Γ M fun x M1 => rSl lo hi x M1 Q) : dSl lo hi ta Γ M Q := h
theorem k_app (h : ta Γ M fun x M1 => isL M1 x ∧ tb Γ M1 fun y M2 => rApp x y M2 Q) : dApp ta tb Γ M Q := h
theorem k_pop (h : ta Γ M fun x M1 => rPopD x M1 Q) : dPop ta Γ M Q := h
theorem k_it (h : ta Γ M fun x M1 => rIT x M1 R) : dIT ta Γ M R := h
theorem k_ik (h : ta Γ M fun x M1 => rIK x M1 R) : dIK ta Γ M R := h
theorem k_il (h : ta Γ M fun x M1 => rIL x M1 R) : dIL ta Γ M R := h
def asR (ds : List D) (M : Mm) (R : Src → Mm → Prop) : Prop := match ds with
  | [.int j] => -(2 ^ 62) ≤ j ∧ j < 2 ^ 62 ∧ R (srcC ((List.range j.toNat).map fun (i : Nat) => D.int i)) M
  | _ => False
theorem k_ir (h : tr Γ M fun ds M1 => asR ds M1 R) : dIR tr Γ M R := h
theorem k_asR (h1 : -(2 ^ 62) ≤ p) (h2 : p < 2 ^ 62) (h : R (srcC ((List.range p.toNat).map fun (i : Nat) => D.int i)) M) : asR [.int p] M R := ⟨h1, h2, h⟩
theorem k_lc (h : ti Γ M fun src M1 => lcBody src as tt te vs Γ M1 Q) : dLc ti as tt te vs Γ M Q := h
theorem k_ask {α : Type} {o : Option α} {z : α} {k : α → Prop} (h : o = some z) (q : k z) : ask o k := by rw [h]; exact q
-- operations by data
theorem k_ix (h : ixo x y = some d) (q : Q d M) : rIxD x y M Q := by
  unfold ixo at h
  split at h
  · rw [x_ixn, h]; exact q
  · cases h
theorem k_lix (h : M a = some (.lst ds)) (h2 : ixo (.tup ds) y = some d) (q : Q d M) : rIxD (.obj a) y M Q := by
  unfold ixo at h2
  split at h2
  · rename_i es n e
    cases e
    rw [x_lixn h, h2]; exact q
  · cases h2
theorem k_dix (h : M a = some (.dct o kvs)) (h2 : lk kvs s = some d) (q : Q d M) : rIxD (.obj a) (standD s) M Q := by rw [x_dix h, h2]; exact q
theorem k_int (h : C p q) (z : Q (g p q) M) : rInt C g (.int p) (.int q) M Q := ⟨h, z⟩
theorem k_addi (h : Q (.int (p + q)) M) : rAddD (.int p) (.int q) M Q := h
theorem k_addt (h : ds.length + es.length ≤ sizeLine) (z : Q (.tup (ds ++ es)) M) : rAddD (.tup ds) (.tup es) M Q := ⟨h, z⟩
theorem k_iaddi (h : Q (.int (p + q)) M) : rIAdd (.int p) (.int q) M Q := h
theorem k_eqi (h : Q (.bl (decide (p = q))) M) : rEqD false (.int p) (.int q) M Q := h
theorem k_nei (h : Q (.bl (!decide (p = q))) M) : rEqD true (.int p) (.int q) M Q := h
theorem k_eqs {x y : Str} (h : Q (.bl (decide (x = y))) M) : rEqD false (.str x) (.str y) M Q := h
theorem k_nes {x y : Str} (h : Q (.bl (!decide (x = y))) M) : rEqD true (.str x) (.str y) M Q := h
theorem k_eqb (h : Q (.bl (decide (k = b))) M) : rEqD false (.bl k) (.bl b) M Q := h
theorem k_neb (h : Q (.bl (!decide (k = b))) M) : rEqD true (.bl k) (.bl b) M Q := h
theorem k_eqst {s t : Stand} (h : Q (.bl (decide (s = t))) M) : rEqD false (standD s) (standD t) M Q := by rw [x_eqst]; exact h
theorem k_isN (h : Q (.bl (isN d)) M) : rIsN false d .non M Q := h
theorem k_notN (h : Q (.bl (!isN d)) M) : rIsN true d .non M Q := h
theorem k_inT {v : V} {ws : List V} (h1 : toV d = some v) (h2 : toVs ds = some ws) (h : Q (.bl (inV v ws)) M) : rInD false d (.tup ds) M Q := by rw [x_int_t, h1, h2]; exact h
theorem k_ninT {v : V} {ws : List V} (h1 : toV d = some v) (h2 : toVs ds = some ws) (h : Q (.bl (!inV v ws)) M) : rInD true d (.tup ds) M Q := by rw [x_nin_t, h1, h2]; exact h
theorem k_inL {v : V} {ws : List V} (h0 : M a = some (.lst ds)) (h1 : toV d = some v) (h2 : toVs ds = some ws) (h : Q (.bl (inV v ws)) M) : rInD false d (.obj a) M Q := by
  unfold rInD
  simp only [h0, h1, h2, ask_some]
  exact h
theorem k_ninL {v : V} {ws : List V} (h0 : M a = some (.lst ds)) (h1 : toV d = some v) (h2 : toVs ds = some ws) (h : Q (.bl (!inV v ws)) M) : rInD true d (.obj a) M Q := by
  unfold rInD
  simp only [h0, h1, h2, ask_some]
  exact h
theorem k_inD (h0 : M a = some (.dct o kvs)) (h : Q (.bl (lk kvs s).isSome) M) : rInD false (standD s) (.obj a) M Q := by rw [x_int_d h0]; exact h
theorem k_ninD (h0 : M a = some (.dct o kvs)) (h : Q (.bl (!(lk kvs s).isSome)) M) : rInD true (standD s) (.obj a) M Q := by rw [x_nin_d h0]; exact h
theorem k_rsl (h : Q (.tup (cutD ds lo hi)) M) : rSl lo hi (.tup ds) M Q := h
theorem k_rsls (h : Q (.tup [.bl s.ht, .bl s.wd]) M) : rSl (some 1) (some 3) (standD s) M Q := h
theorem k_lent (h : Q (.int ds.length) M) : rLen [.tup ds] M Q := h
theorem k_lenl (h0 : M a = some (.lst ds)) (h : Q (.int ds.length) M) : rLen [.obj a] M Q := by rw [x_len_l h0]; exact h
theorem k_i2 {f : Int → Int → Int} (h : Q (.int (f p q)) M) : rI2 f [.int p, .int q] M Q := h
theorem k_toi (h : Q (.int p) M) : rToInt [.int p] M Q := h
theorem k_tob (h : Q (.int (bI k)) M) : rToInt [.bl k] M Q := h
theorem k_itt (h : R (srcC ds) M) : rIT (.tup ds) M R := h
theorem k_itw {hs : House} (h : R (srcC (hs.ws.map fun w => D.str w.s)) M) : rIT (wsD hs) M R := h
theorem k_rik (h0 : M a = some (.dct o kvs)) (h : R (srcK a o) M) : rIK (.obj a) M R := by rw [x_ik h0]; exact h
theorem k_ril (h0 : M a = some (.lst ds)) (h : R (srcL a) M) : rIL (.obj a) M R := by rw [x_il h0]; exact h
theorem k_isi {m nm : String} (h1 : tyn M x = some m) (h2 : kitB m nm = some b) (h : Q (.bl b) M) : rIsi [x, .ty nm] M Q := by
  unfold rIsi
  simp only [h1, h2, ask_some]
  exact h
theorem k_rall {bs : List Bool} (h0 : M a = some (.lst ds)) (h1 : toBs ds = some bs) (h : Q (.bl (bs.all id)) M) : rAllD [.obj a] M Q := by
  unfold rAllD
  simp only [h0, h1, ask_some]
  exact h
theorem k_tot (h0 : M a = some (.lst ds)) (h : Q (.tup ds) M) : rToTup [.obj a] M Q := by
  unfold rToTup
  simp only [h0]
  exact h
theorem bk_ixo {b : List Page} {n : Nat} {p : Page} (h : b[n]? = some p) : ixo (bookD b) (.int (.ofNat n)) = some (pageD p) := by
  show (b.map pageD)[n]? = _
  rw [List.getElem?_map, h]
  rfl
theorem pg_ixo {p : Page} {n : Nat} (h : n < 3) : ixo (pageD p) (.int (.ofNat n)) = some (lineD (p.at n)) := by
  match n, h with
  | 0, _ => rfl
  | 1, _ => rfl
  | 2, _ => rfl
/-- data that == takes -/
def Lay (d : D) : Prop := ∃ p, pyT d = some p ∧ p.canLay0 = true ∧ p.depth ≤ 6
theorem Lay.all : ∀ {ds : List D}, (∀ d ∈ ds, Lay d) → ∃ ps, pyTs ds = some ps ∧ PyData.canLayAll0 ps = true ∧ PyData.depthAll ps ≤ 6
  | [], _ => ⟨[], rfl, rfl, by simp [PyData.depthAll]⟩
  | d :: ds, h => by
    obtain ⟨p, h1, h2, h3⟩ := h d List.mem_cons_self
    obtain ⟨ps, g1, g2, g3⟩ := Lay.all (ds := ds) fun e he => h e (List.mem_cons_of_mem _ he)
    refine ⟨p :: ps, by rw [pyTs, h1, g1], by simp [PyData.canLayAll0, h2, g2], ?_⟩
    simp only [PyData.depthAll]
    omega
theorem Lay.tup {ds : List D} (h : ∀ d ∈ ds, Lay d) (h5 : ∀ ps, pyTs ds = some ps → PyData.depthAll ps ≤ 5) : Lay (.tup ds) := by
  obtain ⟨ps, g1, g2, g3⟩ := Lay.all h
  refine ⟨.tuple ps, by rw [pyT, g1]; rfl, by simpa [PyData.canLay0] using g2, ?_⟩
  have := h5 ps g1
  simp only [PyData.depth]
  omega
theorem lay_int (z : Int) : Lay (.int z) := ⟨.int z, rfl, rfl, by simp [PyData.depth]⟩
theorem lay_stand (s : Stand) : Lay (standD s) := ⟨_, py_stand (M := fun _ => none) s, by simp [PyData.canLay0, PyData.canLayAll0], by simp [PyData.depth, PyData.depthAll]⟩
theorem deed_lay (d : Deed) : (PyData.str d.s).canLay0 = true := by cases d <;> decide +kernel
theorem wth_lay (d : Wth) : (PyData.str d.s).canLay0 = true := by cases d <;> decide +kernel
theorem dev_lay (d : Dev) : (PyData.str d.s).canLay0 = true := by cases d <;> decide +kernel
theorem lay_deed (d : Deed) : Lay (.str d.s) := ⟨_, rfl, deed_lay d, by simp [PyData.depth]⟩
theorem lay_dev (d : Dev) : Lay (.str d.s) := ⟨_, rfl, dev_lay d, by simp [PyData.depth]⟩
theorem lay_row (h : House) (s : Stand) (w : Wth) : Lay (rowD h s w) := by
  refine ⟨.tuple [.str w.s, .tuple [.int (tickS h s w).lv, .bool (tickS h s w).ht, .bool (tickS h s w).wd, .int (tickS h s w).ph, .tuple [.int (.ofNat (tickS h s w).p0), .int (.ofNat (tickS h s w).p1)]],
    .tuple [.str (deed0 h s).s, .str (deed1 h s).s], .tuple [.int (midS h s).lv, .bool (midS h s).ht, .bool (midS h s).wd, .int (midS h s).ph, .tuple [.int (.ofNat (midS h s).p0), .int (.ofNat (midS h s).p1)]]], ?_, ?_, ?_⟩
  · simp [rowD, pairD, standD, pyT, pyTs]
  · have h1 := deed_lay (deed0 h s)
    have h2 := deed_lay (deed1 h s)
    have h3 := wth_lay w
    simp [PyData.canLay0, PyData.canLayAll0] at h1 h2 h3 ⊢
    exact ⟨h3, h1, h2⟩
  · simp [PyData.depth, PyData.depthAll]
theorem eqv_nil (ps : List PyData) : PyData.eqv (.list ps) (.list []) = ps.isEmpty := by
  cases ps with
  | nil => rfl
  | cons p ps => simp [PyData.eqv, PyData.eqvAll]
theorem pyTs_len : ∀ {ds : List D} {ps : List PyData}, pyTs ds = some ps → ps.isEmpty = ds.isEmpty
  | [], _, e => by cases e; rfl
  | d :: ds, ps, e => by
    rw [pyTs] at e
    split at e
    · cases e; rfl
    · cases e
theorem eq_nil {M : Mm} {a b : Addr} {ds : List D} {Q : QD} {neg : Bool} (h1 : M a = some (.lst ds)) (h2 : M b = some (.lst [])) (hl : ∀ d ∈ ds, Lay d) (h : Q (.bl (if neg = true then !ds.isEmpty else ds.isEmpty)) M) : rEqD neg (.obj a) (.obj b) M Q := by
  obtain ⟨ps, g1, g2, g3⟩ := Lay.all hl
  have e : rEqD neg (.obj a) (.obj b) M Q = ask (pyD M (.obj a)) fun d => ask (pyD M (.obj b)) fun e => SeqAt.shaped d = true ∧ SeqAt.shaped e = true ∧ Q (.bl (if neg = true then !PyData.eqv d e else PyData.eqv d e)) M := rfl
  rw [e]
  simp only [pyD, h1, h2, g1, pyTs, Option.map_some, ask_some, eqv_nil, pyTs_len g1]
  refine ⟨?_, by decide, h⟩
  unfold SeqAt.shaped
  rw [Bool.and_eq_true]
  exact ⟨by simpa [PyData.canLay0] using g2, decide_eq_true (by simp only [PyData.depth]; omega)⟩
theorem k_neNil {M : Mm} {a b : Addr} {ds : List D} {Q : QD} (h1 : M a = some (.lst ds)) (h2 : M b = some (.lst [])) (hl : ∀ d ∈ ds, Lay d) (h : Q (.bl (!ds.isEmpty)) M) : rEqD true (.obj a) (.obj b) M Q := eq_nil h1 h2 hl h
theorem k_eqNil {M : Mm} {a b : Addr} {ds : List D} {Q : QD} (h1 : M a = some (.lst ds)) (h2 : M b = some (.lst [])) (hl : ∀ d ∈ ds, Lay d) (h : Q (.bl ds.isEmpty) M) : rEqD false (.obj a) (.obj b) M Q := eq_nil h1 h2 hl h
theorem k_nedev {p q : Bool × Bool} (h : Q (.bl (decide (p ≠ q))) M) : rEqD true (devD p) (devD q) M Q := by
  have := x_nedev (M := M) (Q := Q) (p := p) (q := q)
  exact (this ▸ h : rEqD true (.tup [.bl p.1, .bl p.2]) (.tup [.bl q.1, .bl q.2]) M Q)
end
section
variable {src : Src} {as : D → Option Sets} {tt : DTT} {te : DTE} {vs : List Nat} {Γ : Ge} {M1 : Mm} {Q : QD}
theorem lc_map {α : Type} (l : List α) (f : α → D) (el : α → Option D) (hs : ∀ a acc, M1 a = none → src (mset M1 a (.lst acc)) (l.map f)) (hl : l.length < sizeLine) (he : ∀ a acc x, M1 a = none → x ∈ l → LcEl as tt te vs Γ (mset M1 a (.lst acc)) (f x) (el x))
    (hq : ∀ a, M1 a = none → Q (.obj a) (mset M1 a (.lst (l.filterMap el)))) : lcBody src as tt te vs Γ M1 Q := by
  intro a ha
  refine ⟨l.map f, fun i M' => i ≤ l.length ∧ M' = mset M1 a (.lst ((l.take i).filterMap el)), fun i M' h => by rw [h.2]; exact hs a _ ha, ⟨Nat.zero_le _, rfl⟩, fun i d M' hd ⟨hi, e⟩ => ?_, fun M' ⟨_, e⟩ => ?_⟩
  · subst e
    rw [List.getElem?_map] at hd
    obtain ⟨x, hx, rfl⟩ := Option.map_eq_some_iff.mp hd
    have hlt : i < l.length := (List.getElem?_eq_some_iff.mp hx).1
    have et : l.take (i + 1) = l.take i ++ [x] := by rw [List.take_add_one, hx]; rfl
    have key := he a ((l.take i).filterMap el) x ha (List.mem_of_getElem? hx) (fun o M3 => match o with
      | some y => (match M3 a with
        | some (.lst acc) => acc.length < sizeLine ∧ (i + 1 ≤ l.length ∧ mset M3 a (.lst (acc ++ [y])) = mset M1 a (.lst ((l.take (i + 1)).filterMap el)))
        | _ => False)
      | none => i + 1 ≤ l.length ∧ M3 = mset M1 a (.lst ((l.take (i + 1)).filterMap el)))
    refine key ?_
    rw [et, List.filterMap_append]
    cases h : el x with
    | none =>
      refine ⟨hlt, ?_⟩
      rw [List.filterMap_cons, h]
      simp
    | some y =>
      simp only [mset_same]
      refine ⟨Nat.lt_of_le_of_lt (Nat.le_trans (List.length_filterMap_le _ _) (by rw [List.length_take]; omega)) hl, hlt, ?_⟩
      rw [mset_mset, List.filterMap_cons, h]
      simp
  · subst e
    rw [List.length_map, List.take_length]
    exact hq a ha
/-- without a test: a map -/
theorem lc_mapS {α : Type} (l : List α) (f g : α → D) (hs : ∀ a acc, M1 a = none → src (mset M1 a (.lst acc)) (l.map f)) (hl : l.length < sizeLine) (he : ∀ a acc x, M1 a = none → x ∈ l → LcEl as tt te vs Γ (mset M1 a (.lst acc)) (f x) (some (g x)))
    (hq : ∀ a, M1 a = none → Q (.obj a) (mset M1 a (.lst (l.map g)))) : lcBody src as tt te vs Γ M1 Q :=
  lc_map l f (fun x => some (g x)) hs hl he fun a ha => by
    have e : l.filterMap (fun x => some (g x)) = l.map g := by simp
    rw [e]
    exact hq a ha
end
section
variable {Q : QD} {d e : D} {ds es : List D} {M M' : Mm} {a b : Addr} {o : Obj} {kvs : List (Stand × D)} {s : Stand} {v : D} {R : Mm → Prop} {X : Prop}
theorem sl_b {n : Nat} (h : n ≤ 1000000) : n ≤ sizeLine := line2 h
theorem k_isl (h : M a = some (.lst ds)) (q : X) : isL M (.obj a) ∧ X := ⟨by rw [x_isl h]; trivial, q⟩
theorem k_rapp (h : M a = some (.lst ds)) (hl : ds.length < sizeLine) (q : Q .non (mset M a (.lst (ds ++ [e])))) : rApp (.obj a) e M Q := by rw [x_app h]; exact ⟨hl, q⟩
theorem k_rpop (h : M a = some (.lst ds)) (h2 : ds[ds.length - 1]? = some d) (q : Q d (mset M a (.lst ds.dropLast))) : rPopD (.obj a) M Q := by rw [x_pop h, h2]; exact q
theorem k_rset (h : M a = some (.dct o kvs)) (h1 : lk kvs s = none) (h2 : kvs.length < sizeLine) (q : ∀ ob', R (mset M a (.dct ob' (kvs ++ [(s, v)])))) : rSet (.obj a) (standD s) v M R := by rw [x_setd h]; exact ⟨h1, h2, q⟩
theorem k_iaddl (h : M a = some (.lst ds)) (h' : M b = some (.lst es)) (hl : ds.length + es.length ≤ sizeLine) (q : Q (.obj a) (mset M a (.lst (ds ++ es)))) : rIAdd (.obj a) (.obj b) M Q := by rw [x_iaddl h h']; exact ⟨hl, q⟩
theorem k_addl (h : M a = some (.lst ds)) (h' : M b = some (.lst es)) (hl : ds.length + es.length ≤ sizeLine) (q : ∀ p, M p = none → Q (.obj p) (mset M p (.lst (ds ++ es)))) : rAddD (.obj a) (.obj b) M Q := by rw [x_addl h h']; exact ⟨hl, q⟩
/-- all but a stays -/
def Kp (a : Addr) (M M' : Mm) : Prop := ∀ b o, b ≠ a → M b = some o → M' b = some o
theorem Kp.rfl' : Kp a M M := fun _ _ _ h => h
theorem Kp.tr {M1 : Mm} (h : Kp a M M') (h2 : Kp a M' M1) : Kp a M M1 := fun b o n q => h2 b o n (h b o n q)
theorem Kp.at {u : MO} (h : Kp a M M') : Kp a M (mset M' a u) := fun b o n q => by rw [mset_ne n]; exact h b o n q
theorem Kp.new {u : MO} (h : Kp a M M') {p : Addr} (hp : M' p = none) : Kp a M (mset M' p u) := fun b o n q => by
  have := h b o n q
  rw [mset_ne (mne this hp)]
  exact this
theorem Kp.le (h : Le M M') : Kp a M M' := fun b o _ q => h b o q
theorem Kp.tle {M1 : Mm} (h : Kp a M M') (h2 : Le M' M1) : Kp a M M1 := h.tr (Kp.le h2)
theorem Kp.fin {u : MO} (h : Kp a M M') (hu : M' a = some u) (q : Q d (mset M a u)) : fin Q d M' := ⟨_, fun b o e => by
  by_cases c : b = a
  · subst c; rw [mset_same] at e; cases e; exact hu
  · rw [mset_ne c] at e; exact h b o c e, q⟩
theorem Kp.fin0 (h : Kp a M M') (ha : M a = none) (q : Q d M) : L3.fin Q d M' := ⟨_, fun b o e => h b o (mne e ha) e, q⟩
end
section
variable {src : Src} {ti ti1 : DTI} {as as1 : D → Option Sets} {tt tt1 : DTT} {te : DTE} {vs vs1 : List Nat} {Γ : Ge} {M M1 : Mm} {Q : QD}
def lc2Body (src : Src) (as : D → Option Sets) (tt : DTT) (ti1 : DTI) (as1 : D → Option Sets) (tt1 : DTT) (te : DTE) (vs vs1 : List Nat) (Γ : Ge) (M1 : Mm) (Q : QD) : Prop := ∀ a, M1 a = none → ∃ (ds : List D) (W : Nat → Mm → Prop), (∀ i M', W i M' → src M' ds) ∧ W 0 (mset M1 a (.lst [])) ∧
  (∀ i d M', ds[i]? = some d → W i M' → ask (as d) fun sets => (∀ p ∈ sets, p.1 ∈ vs) ∧ tt (setG (wipeG Γ vs) sets) M' fun b M2 => if b = true then
      ti1 (setG (wipeG Γ vs) sets) M2 fun src1 M3 => ∃ (es : List D) (V1 : Nat → Mm → Prop), (∀ j M', V1 j M' → src1 M' es) ∧ V1 0 M3 ∧
        (∀ j e M', es[j]? = some e → V1 j M' → ask (as1 e) fun sets1 => (∀ p ∈ sets1, p.1 ∈ vs1) ∧ tt1 (setG (wipeG (setG (wipeG Γ vs) sets) vs1) sets1) M' fun b M4 => if b = true then
          te (setG (wipeG (setG (wipeG Γ vs) sets) vs1) sets1) M4 fun y M5 => match M5 a with
            | some (.lst acc) => acc.length < sizeLine ∧ V1 (j + 1) (mset M5 a (.lst (acc ++ [y])))
            | _ => False
          else V1 (j + 1) M4) ∧ ∀ M', V1 es.length M' → W (i + 1) M'
    else W (i + 1) M2) ∧ ∀ M', W ds.length M' → Q (.obj a) M'
theorem k_lc2 (h : ti Γ M fun src M1 => lc2Body src as tt ti1 as1 tt1 te vs vs1 Γ M1 Q) : dLc2 ti as tt ti1 as1 tt1 te vs vs1 Γ M Q := h
end
end L3

/-! The statements of the linked text by number. -/
namespace L3
open PySem PySem.Spec PyProof.Rows L2
def topS (i : Nat) : Stmt := PySem.Challenge.pw_roomfeud_k06_whole_fights.main.body.getD i (.Pass ⟨0, 0, 0, 0⟩)
end L3

/-! The defs of the ticks. -/
namespace L3
open PySem PySem.Spec PyProof.Rows L2
local macro_rules | `(tactic| walk_at "mem") => `(tactic| first | assumption | exact mset_same | (refine (mset_ne ?_).trans ?_ <;> first | assumption | exact Ne.symm (by assumption) | exact mset_same | (refine (mset_ne ?_).trans ?_ <;> first | assumption | exact Ne.symm (by assumption) | exact mset_same)))
local macro_rules | `(tactic| walk_at "line") => `(tactic| first | decide | (simp only [List.length_cons, List.length_nil, List.length_map, List.length_append]; first | decide | omega) | (refine sl_b ?_; simp only [List.length_cons, List.length_nil, List.length_map, List.length_append]; first | decide | omega))
local macro_rules | `(tactic| walk_at "s1") => `(tactic| first
  | ((with_reducible refine' k_var ?g0 ?_); (case g0 => exact rfl))
  | ((with_reducible refine' k_seqN ?g0 ?_); (case g0 => (try simp only [startD, g_cons, g_nil, List.map_cons, List.map_nil, List.length_cons, List.length_nil, Nat.reduceAdd, Nat.reduceSub, List.replicate_succ, List.replicate_zero, List.cons_append, List.nil_append, List.set_cons_zero, List.set_cons_succ, List.zip_cons_cons, List.zip_nil_right, List.zip_nil_left]); try exact rfl))
  | ((with_reducible refine' k_retN ?g0 ?_); (case g0 => (try simp only [startD, g_cons, g_nil, List.map_cons, List.map_nil, List.length_cons, List.length_nil, Nat.reduceAdd, Nat.reduceSub, List.replicate_succ, List.replicate_zero, List.cons_append, List.nil_append, List.set_cons_zero, List.set_cons_succ, List.zip_cons_cons, List.zip_nil_right, List.zip_nil_left]); try exact rfl))
  | (with_reducible refine k_nedev ?_)
  | (with_reducible refine k_ifS ?_)
  | (with_reducible refine k_next ?_)
  | (with_reducible refine k_drop ?_)
  | (with_reducible refine k_set ?_)
  | (with_reducible refine k_asg ?_)
  | (with_reducible refine k_sub ?_)
  | (with_reducible refine k_par ?_)
  | (with_reducible refine k_asP ?_)
  | (with_reducible refine k_par3 ?_)
  | (with_reducible refine k_asP3 ?_)
  | (with_reducible refine k_aug ?_)
  | (with_reducible refine k_for ?_)
  | (with_reducible refine k_B ?_)
  | (with_reducible refine k_asB ?_)
  | (with_reducible refine k_and ?_)
  | (with_reducible refine k_or ?_)
  | (with_reducible refine k_not ?_)
  | (with_reducible refine k_andV ?_)
  | (with_reducible refine k_orV ?_)
  | (with_reducible refine k_notV ?_)
  | (with_reducible refine k_chain ?_)
  | (with_reducible refine k_yes ?_)
  | (with_reducible refine k_if ?_)
  | (with_reducible refine k_c ?_)
  | (with_reducible refine k_op ?_)
  | (with_reducible refine k_nil ?_)
  | (with_reducible refine k_cons ?_)
  | (with_reducible refine k_tup ?_)
  | (with_reducible refine k_lst ?_)
  | (with_reducible refine k_call ?_)
  | (with_reducible refine k_fn ?_)
  | (with_reducible refine k_sl ?_)
  | (with_reducible refine k_app ?_)
  | (with_reducible refine k_pop ?_)
  | (with_reducible refine k_it ?_)
  | (with_reducible refine k_ik ?_)
  | (with_reducible refine k_il ?_)
  | (with_reducible refine k_ir ?_)
  | (with_reducible refine k_lc ?_)
  | (with_reducible refine k_addi ?_)
  | (with_reducible refine k_iaddi ?_)
  | (with_reducible refine k_eqi ?_)
  | (with_reducible refine k_nei ?_)
  | (with_reducible refine k_eqs ?_)
  | (with_reducible refine k_nes ?_)
  | (with_reducible refine k_eqb ?_)
  | (with_reducible refine k_neb ?_)
  | (with_reducible refine k_eqst ?_)
  | (with_reducible refine k_isN ?_)
  | (with_reducible refine k_notN ?_)
  | (with_reducible refine k_rsls ?_)
  | (with_reducible refine k_rsl ?_)
  | (with_reducible refine k_lent ?_)
  | (with_reducible refine k_i2 ?_)
  | (with_reducible refine k_toi ?_)
  | (with_reducible refine k_tob ?_)
  | (with_reducible refine k_itw ?_)
  | (with_reducible refine k_itt ?_)
  | (with_reducible refine k_lc2 ?_)
  | (with_reducible refine k_get ?_)
  | (with_reducible refine k_dc ?_)
  | ((with_reducible refine' k_ask ?g0 ?_); (case g0 => exact rfl))
  | ((with_reducible refine' k_ix ?g0 ?_); (case g0 => exact rfl))
  | ((with_reducible refine' k_lix ?g0 ?g1 ?_); (case g0 => walk_at "mem"); (case g1 => exact rfl))
  | ((with_reducible refine' k_int ?g0 ?_); (case g0 => first | exact trivial | exact cm2 | (show (0 : Int) < _; omega) | (show CMul _ _; exact .inl ⟨by omega, by omega⟩) | (show CMul _ _; exact .inr ⟨by omega, by omega⟩) | (show CDiv _ _; exact ⟨by omega, by omega⟩) | exact ⟨by decide, by decide⟩))
  | ((with_reducible refine' k_addt ?g0 ?_); (case g0 => walk_at "line"))
  | ((with_reducible refine' sl_s ?g0 ?_); (case g0 => walk_at "line"))
  | ((with_reducible refine' k_inT ?g0 ?g1 ?_); (case g0 => exact rfl); (case g1 => exact rfl))
  | ((with_reducible refine' k_ninT ?g0 ?g1 ?_); (case g0 => exact rfl); (case g1 => exact rfl))
  | ((with_reducible refine' k_inL ?g0 ?g1 ?g2 ?_); (case g0 => walk_at "mem"); (case g1 => exact rfl); (case g2 => exact rfl))
  | ((with_reducible refine' k_ninL ?g0 ?g1 ?g2 ?_); (case g0 => walk_at "mem"); (case g1 => exact rfl); (case g2 => exact rfl))
  | ((with_reducible refine' k_lenl ?g0 ?_); (case g0 => walk_at "mem"))
  | ((with_reducible refine' k_ninD ?g0 ?_); (case g0 => walk_at "mem"))
  | ((with_reducible refine' k_inD ?g0 ?_); (case g0 => walk_at "mem"))
  | ((with_reducible refine' k_rik ?g0 ?_); (case g0 => walk_at "mem"))
  | ((with_reducible refine' k_ril ?g0 ?_); (case g0 => walk_at "mem"))
  | ((with_reducible refine' k_isi ?g0 ?g1 ?_); (case g0 => exact rfl); (case g1 => exact rfl))
  | ((with_reducible refine' k_isl ?g0 ?_); (case g0 => walk_at "mem"))
  | ((with_reducible refine' k_rget ?g0 ?_); (case g0 => walk_at "mem"))
  | ((with_reducible refine' k_dix ?g0 ?g1 ?_); (case g0 => walk_at "mem"); (case g1 => assumption))
  | ((with_reducible refine' k_iaddl ?g0 ?g1 ?g2 ?_); (case g0 => walk_at "mem"); (case g1 => walk_at "mem"); (case g2 => walk_at "line"))
  | ((with_reducible refine' k_addl ?g0 ?g1 ?g2 ?_); (case g0 => walk_at "mem"); (case g1 => walk_at "mem"); (case g2 => walk_at "line"))
  | ((with_reducible refine' k_rall ?g0 ?g1 ?_); (case g0 => walk_at "mem"); (case g1 => exact rfl))
  | ((with_reducible refine' k_tot ?g0 ?_); (case g0 => walk_at "mem"))
  | ((with_reducible refine' k_t ?g0 ?_); (case g0 => exact rfl))
  | ((with_reducible refine' k_f ?g0 ?_); (case g0 => exact rfl)))
local macro_rules | `(tactic| walk_at "st") => `(tactic| (repeat (walk_at "s1")); try dsimp only)
local macro_rules | `(tactic| walk_at "c") => `(tactic| try simp only [inV_two, d_no, d_on, d_off, d_open, d_shut, d_no', d_on', d_off', d_open', d_shut', w_cold, w_cold', v_heat, reduceCtorEq, decide_true, decide_false, Bool.or_false, Bool.false_or, Bool.or_true, Bool.true_or, Bool.not_true, Bool.not_false, Bool.false_eq_true, Bool.true_eq_false, if_true, if_false, reduceIte])
local macro_rules | `(tactic| walk_at "len") => `(tactic| (intro ds M Q EX h; repeat (obtain ⟨x, h⟩ := h; try (subst x; exact rfl))))
section
variable {P : Program} {w : World} {K : PySem.W.Frag} {mg : Str → Option Value} {base : Heap}
abbrev s_feeling_of : Stmt := topS 41
theorem sc_feeling_of : FnScope ["person", "level"] ["person", "level"] (defScope s_feeling_of) := ⟨rfl, rfl, rfl, by decide +kernel, rfl, by decide +kernel, by decide +kernel⟩
def sp_feeling_of : DSp := fun ds M Q _ => ∃ p lv, ds = [persD p, .int lv] ∧ Q (.int (.ofNat (feel p lv))) M
theorem ok_feeling_of {f : Addr} {fd : FuncData} (F : Fun K "feeling_of" "feeling_of" s_feeling_of f fd) : DFn P w K mg base CX0 1 f fd ["person", "level"] sp_feeling_of := by
  refine dfn_ok F sc_feeling_of (by walk_at "len") fun cdv A outer s H E hr => ?_
  have hu := hr.units
  refine ⟨_, (dss_cons (ds_if (dt_cmp op_ltD (dv 1) (de_op op_mulD de_int (de_ix hu (dv 0) de_int (fun _ _ => rfl))) (nomark _)) (dss_one (ds_ret de_int)) dss_nil)
        (dss_one (ds_ret (de_if (dt_cmp op_gtD (dv 1) (de_op op_mulD de_int (de_ix hu (dv 0) de_int (fun _ _ => rfl))) (nomark _)) de_int de_int)))), ?_⟩
  rintro ds M Q EX ⟨p, lv, rfl, q⟩
  walk_at "st"
  have q := fin.same q
  unfold feel at q
  by_cases h1 : lv < 2 * p.low
  · rw [if_pos h1] at q
    refine k_t (decide_eq_true h1) ?_
    walk_at "st"
    exact q
  · rw [if_neg h1] at q
    refine k_f (decide_eq_false h1) ?_
    walk_at "st"
    by_cases h2 : 2 * p.high < lv
    · rw [if_pos h2] at q
      refine k_t (decide_eq_true h2) ?_
      exact q
    · rw [if_neg h2] at q
      refine k_f (decide_eq_false h2) ?_
      exact q

abbrev s_changed : Stmt := topS 42
theorem sc_changed : FnScope ["devices", "deed", "heater", "window"] ["devices", "deed"] (defScope s_changed) := ⟨rfl, rfl, rfl, by decide +kernel, rfl, by decide +kernel, by decide +kernel⟩
def sp_changed : DSp := fun ds M Q _ => ∃ dv d, ds = [devD dv, .str d.s] ∧ Q (devD (chg dv d)) M
theorem ok_changed {f : Addr} {fd : FuncData} (F : Fun K "changed" "changed" s_changed f fd) : DFn P w K mg base CX0 1 f fd ["devices", "deed"] sp_changed := by
  refine dfn_ok F sc_changed (by walk_at "len") fun cdv A outer s H E hr => ?_
  have hu := hr.units
  refine ⟨_, (dss_cons (ds_asg (dv 0) (dg_tup (is := [2, 3]) (pg_tup rfl (pgs_cons (pg_name (i := 2) sc_changed.nd rfl (Or.inl rfl)) (pgs_cons (pg_name (i := 3) sc_changed.nd rfl (Or.inl rfl)) pgs_nil))) rfl))
        (dss_cons (ds_if (dt_cmp (op_inDD hu) (dv 1) (de_tup (da_cons de_str (da_cons de_str da_nil))) (by rfl)) (dss_one (ds_ret (de_tup (da_cons (de_cmp (op_eqDD hu) (dv 1) de_str (nomark _)) (da_cons (dv 3) da_nil))))) dss_nil)
        (dss_one (ds_ret (de_if (dt_cmp (op_neDD hu) (dv 1) de_str (nomark _)) (de_tup (da_cons (dv 2) (da_cons (de_cmp (op_eqDD hu) (dv 1) de_str (nomark _)) da_nil))) (dv 0)))))), ?_⟩
  rintro ds M Q EX ⟨dv, d, rfl, q⟩
  walk_at "st"
  have q := fin.same q
  cases d
  · walk_at "c"
    walk_at "st"
    walk_at "c"
    exact q
  · walk_at "c"
    walk_at "st"
    walk_at "c"
    exact q
  · walk_at "c"
    walk_at "st"
    walk_at "c"
    exact q
  · walk_at "c"
    walk_at "st"
    walk_at "c"
    walk_at "st"
    walk_at "c"
    exact q
  · walk_at "c"
    walk_at "st"
    walk_at "c"
    walk_at "st"
    walk_at "c"
    exact q

abbrev s_first_change : Stmt := topS 43
theorem sc_first_change : FnScope ["devices", "sought", "some", "deed"] ["devices", "sought"] (defScope s_first_change) := ⟨rfl, rfl, rfl, by decide +kernel, rfl, by decide +kernel, by decide +kernel⟩
def sp_first_change : DSp := fun ds M Q _ => ∃ dv ts, ds = [devD dv, .tup (ts.map fun d : Deed => D.str d.s)] ∧ ts.length ≤ 2 ∧ Q (.str (firstC dv ts).s) M
theorem ok_first_change {f : Addr} {fd : FuncData} (c_changed : Cal P w K mg base CX0 "changed" 1 ["devices", "deed"] sp_changed) (F : Fun K "first_change" "first_change" s_first_change f fd) : DFn P w K mg base CX0 2 f fd ["devices", "sought"] sp_first_change := by
  refine dfn_ok F sc_first_change (by walk_at "len") fun cdv A outer s H E hr => ?_
  have hu := hr.units
  refine ⟨_, (dss_cons (ds_setLc (i := 2) (own := [("deed", 3)]) rfl sc_first_change.nd rfl rfl (sw_true rfl rfl rfl (by decide +kernel)) (di_tup (dv 1)) (blkOk_by (own := [("deed", 3)]) (N := ["devices", "sought", "some", "deed"]) (sc := defScope s_first_change) (by decide +kernel)) (fun _ _ _ _ _ => (dg_name (pg_name (i := 3) sc_first_change.nd rfl (Or.inl rfl)))) (fun _ _ _ _ _ => (dts_one (dt_cmp (op_neDD hu) (de_cal c_changed (hr.mono (by decide)) (by rfl) pass0 (da_cons (dv 0) (da_cons (dv 3) da_nil))) (dv 0) (nomark _)))) (fun _ _ _ _ _ => (dv 3)))
        (dss_one (ds_ret (de_if (dt_cmp (op_neDD hu) (dv 2) (de_lst da_nil) (nomark _)) (de_ix hu (dv 2) de_int (fun _ _ => rfl)) de_str)))), ?_⟩
  rintro ds M Q EX ⟨dv, ts, rfl, hl, q⟩
  have q := fin.same q
  walk_at "st"
  refine lc_map ts (fun d => .str d.s) (fun d => if decide (chg dv d ≠ dv) = true then some (.str d.s) else none) srcC_ok (line3 (by omega)) (fun a acc d ha hd R hR => ?_) fun a ha => ?_
  · refine k_ask rfl ⟨by simp, ?_⟩
    walk_at "st"
    refine ⟨dv, d, rfl, ?_⟩
    walk_at "st"
    by_cases hc : decide (chg dv d ≠ dv) = true
    · rw [if_pos hc] at hR
      rw [if_pos hc]
      exact hR
    · rw [if_neg hc] at hR
      rw [if_neg hc]
      exact hR
  · walk_at "st"
    intro p hp
    have hpa : p ≠ a := fun e => by rw [e, mset_same] at hp; cases hp
    have e : ∀ l : List Deed, l.filterMap (fun d => if decide (chg dv d ≠ dv) = true then some (D.str d.s) else none) = (l.filter fun d => decide (chg dv d ≠ dv)).map fun d => D.str d.s := by
      intro l
      induction l with
      | nil => rfl
      | cons t l ih =>
        rw [List.filterMap_cons, List.filter_cons]
        by_cases h : decide (chg dv t ≠ dv) = true
        · rw [if_pos h, if_pos h, List.map_cons, ih]
        · rw [if_neg h, if_neg h, ih]
    have e := e ts
    rw [e] at hp ⊢
    unfold firstC at q
    refine k_neNil (ds := (ts.filter fun d => decide (chg dv d ≠ dv)).map fun d => D.str d.s) ((mset_ne (Ne.symm hpa)).trans mset_same) mset_same (fun d hd => ?_) ?_
    · obtain ⟨x, _, rfl⟩ := List.mem_map.mp hd
      exact lay_deed x
    · walk_at "st"
      clear e
      generalize ts.filter (fun d => decide (chg dv d ≠ dv)) = l at q hp ⊢
      have q2 := (q.new (o := .lst (l.map fun d => D.str d.s)) ha).new (o := .lst []) hp
      cases l with
      | nil =>
        refine k_f rfl ?_
        exact q2
      | cons x l =>
        refine k_t rfl ?_
        walk_at "st"
        exact q2

abbrev s_period_of : Stmt := topS 39
theorem sc_period_of : FnScope ["house"] ["house"] (defScope s_period_of) := ⟨rfl, rfl, rfl, by decide +kernel, rfl, by decide +kernel, by decide +kernel⟩
def sp_period_of : DSp := fun ds M Q _ => ∃ h, ds = [houseD h] ∧ Q (.int (period h)) M
theorem ok_period_of {f : Addr} {fd : FuncData} (m_max : mg "max" = none) (F : Fun K "period_of" "period_of" s_period_of f fd) : DFn P w K mg base CX0 1 f fd ["house"] sp_period_of := by
  refine dfn_ok F sc_period_of (by walk_at "len") fun cdv A outer s H E hr => ?_
  have hu := hr.units
  refine ⟨_, (dss_one (ds_ret (de_callB (call_maxD rfl) (by rfl) m_max (by decide +kernel) (da_cons (de_ix hu (de_ix hu (de_ix hu (dv 0) de_int (fun _ _ => rfl)) de_int (fun _ _ => rfl)) de_int (fun _ _ => rfl)) (da_cons (de_ix hu (de_ix hu (de_ix hu (dv 0) de_int (fun _ _ => rfl)) de_int (fun _ _ => rfl)) de_int (fun _ _ => rfl)) da_nil))))), ?_⟩
  rintro ds M Q EX ⟨h, rfl, q⟩
  walk_at "st"
  exact fin.same q

abbrev s_looks : Stmt := topS 44
theorem sc_looks : FnScope ["house", "stand", "who"] ["house", "stand", "who"] (defScope s_looks) := ⟨rfl, rfl, rfl, by decide +kernel, rfl, by decide +kernel, by decide +kernel⟩
def sp_looks : DSp := fun ds M Q _ => ∃ h s who, ds = [houseD h, standD s, .int (whoI who)] ∧ h.Ok ∧ Q (.bl (looksB h s who)) M
theorem ok_looks {f : Addr} {fd : FuncData} (F : Fun K "looks" "looks" s_looks f fd) : DFn P w K mg base CX0 1 f fd ["house", "stand", "who"] sp_looks := by
  refine dfn_ok F sc_looks (by walk_at "len") fun cdv A outer s H E hr => ?_
  have hu := hr.units
  refine ⟨_, (dss_one (ds_ret (de_cmp (op_eqDD hu) (de_op op_modD (de_ix hu (dv 1) de_int (fun _ _ => rfl)) (de_ix hu (de_ix hu (de_ix hu (dv 0) de_int (fun _ _ => rfl)) (dv 2) (fun _ _ => rfl)) de_int (fun _ _ => rfl))) de_int (nomark _)))), ?_⟩
  rintro ds M Q EX ⟨h, s, who, rfl, o, q⟩
  have q := fin.same q
  have hb := (o.per who).beat
  unfold looksB at q
  cases who
  · simp only [House.per] at hb
    walk_at "st"
    exact q
  · simp only [House.per] at hb
    walk_at "st"
    exact q

abbrev s_looked : Stmt := topS 45
theorem sc_looked : FnScope ["house", "stand", "who", "level", "heater", "window", "phase", "pages", "person", "tries", "page", "deed", "devices"] ["house", "stand", "who"] (defScope s_looked) := ⟨rfl, rfl, rfl, by decide +kernel, rfl, by decide +kernel, by decide +kernel⟩
def sp_looked : DSp := fun ds M Q _ => ∃ h s who, ds = [houseD h, standD s, .int (whoI who)] ∧ h.Ok ∧ s.Ok h ∧ Q (.tup [standD (lookS h s who), .str (lookD h s who).s]) M
theorem ok_looked {f : Addr} {fd : FuncData} (c_first_change : Cal P w K mg base CX0 "first_change" 2 ["devices", "sought"] sp_first_change) (c_changed : Cal P w K mg base CX0 "changed" 1 ["devices", "deed"] sp_changed) (c_looks : Cal P w K mg base CX0 "looks" 1 ["house", "stand", "who"] sp_looks) (c_feeling_of : Cal P w K mg base CX0 "feeling_of" 1 ["person", "level"] sp_feeling_of) (F : Fun K "looked" "looked" s_looked f fd) : DFn P w K mg base CX0 3 f fd ["house", "stand", "who"] sp_looked := by
  refine dfn_ok F sc_looked (by walk_at "len") fun cdv A outer s H E hr => ?_
  have hu := hr.units
  refine ⟨_, (dss_cons (ds_if (dt_not (dt_val (de_cal c_looks (hr.mono (by decide)) (by rfl) pass0 (da_cons (dv 0) (da_cons (dv 1) (da_cons (dv 2) da_nil)))))) (dss_one (ds_ret (de_tup (da_cons (dv 1) (da_cons de_str da_nil))))) dss_nil)
        (dss_cons (ds_asg (dv 1) (dg_tup (is := [3, 4, 5, 6, 7]) (pg_tup rfl (pgs_cons (pg_name (i := 3) sc_looked.nd rfl (Or.inl rfl)) (pgs_cons (pg_name (i := 4) sc_looked.nd rfl (Or.inl rfl)) (pgs_cons (pg_name (i := 5) sc_looked.nd rfl (Or.inl rfl)) (pgs_cons (pg_name (i := 6) sc_looked.nd rfl (Or.inl rfl)) (pgs_cons (pg_name (i := 7) sc_looked.nd rfl (Or.inl rfl)) pgs_nil)))))) rfl))
        (dss_cons (ds_set (i := 8) sc_looked.nd rfl (.inl rfl) (de_ix hu (de_ix hu (dv 0) de_int (fun _ _ => rfl)) (dv 2) (fun _ _ => rfl)))
        (dss_cons (ds_asg (de_ix hu (de_ix hu (de_ix hu (dv 8) de_int (fun _ _ => rfl)) (de_ix hu (dv 7) (dv 2) (fun _ _ => rfl)) (fun _ _ => rfl)) (de_cal c_feeling_of (hr.mono (by decide)) (by rfl) pass0 (da_cons (dv 8) (da_cons (dv 3) da_nil))) (fun _ _ => rfl)) (dg_tup (is := [9, 10]) (pg_tup rfl (pgs_cons (pg_name (i := 9) sc_looked.nd rfl (Or.inl rfl)) (pgs_cons (pg_name (i := 10) sc_looked.nd rfl (Or.inl rfl)) pgs_nil))) rfl))
        (dss_cons (ds_set (i := 11) sc_looked.nd rfl (.inl rfl) (de_cal c_first_change (hr.mono (by decide)) (by rfl) pass0 (da_cons (de_tup (da_cons (dv 4) (da_cons (dv 5) da_nil))) (da_cons (dv 9) da_nil))))
        (dss_cons (ds_set (i := 12) sc_looked.nd rfl (.inl rfl) (de_cal c_changed (hr.mono (by decide)) (by rfl) pass0 (da_cons (de_tup (da_cons (dv 4) (da_cons (dv 5) da_nil))) (da_cons (dv 11) da_nil))))
        (dss_cons (ds_set (i := 7) sc_looked.nd rfl (.inl rfl) (de_if (dt_cmp (op_eqDD hu) (dv 2) de_int (nomark _)) (de_tup (da_cons (dv 10) (da_cons (de_ix hu (dv 7) de_int (fun _ _ => rfl)) da_nil))) (de_tup (da_cons (de_ix hu (dv 7) de_int (fun _ _ => rfl)) (da_cons (dv 10) da_nil)))))
        (dss_one (ds_ret (de_tup (da_cons (de_tup (da_cons (dv 3) (da_cons (de_ix hu (dv 12) de_int (fun _ _ => rfl)) (da_cons (de_ix hu (dv 12) de_int (fun _ _ => rfl)) (da_cons (dv 6) (da_cons (dv 7) da_nil)))))) (da_cons (dv 11) da_nil)))))))))))), ?_⟩
  rintro ds M Q EX ⟨h, s, who, rfl, o, so, q⟩
  have q := fin.same q
  walk_at "st"
  refine ⟨h, s, who, rfl, o, ?_⟩
  unfold lookS lookD at q
  cases hb : looksB h s who with
  | false =>
    rw [hb] at q
    walk_at "st"
    exact q
  | true =>
    rw [hb] at q
    have pa := (o.per who).pageAt (so.pg who)
    have lo := lineOf_ok o so who
    cases who
    · walk_at "st"
      refine k_ix (bk_ixo pa.1) ?_
      walk_at "st"
      refine ⟨h.a, s.lv, rfl, ?_⟩
      refine k_ix (pg_ixo (feel_lt _ _)) ?_
      walk_at "st"
      refine ⟨(s.ht, s.wd), (lineOf h s false).tries, rfl, lo.len, ?_⟩
      walk_at "st"
      refine ⟨(s.ht, s.wd), deedOf h s false, rfl, ?_⟩
      walk_at "st"
      exact q
    · walk_at "st"
      refine k_ix (bk_ixo pa.1) ?_
      walk_at "st"
      refine ⟨h.b, s.lv, rfl, ?_⟩
      refine k_ix (pg_ixo (feel_lt _ _)) ?_
      walk_at "st"
      refine ⟨(s.ht, s.wd), (lineOf h s true).tries, rfl, lo.len, ?_⟩
      walk_at "st"
      refine ⟨(s.ht, s.wd), deedOf h s true, rfl, ?_⟩
      walk_at "st"
      exact q

abbrev s_change_of : Stmt := topS 46
theorem sc_change_of : FnScope ["house", "stand", "weather", "top", "heat", "losses", "at"] ["house", "stand", "weather"] (defScope s_change_of) := ⟨rfl, rfl, rfl, by decide +kernel, rfl, by decide +kernel, by decide +kernel⟩
def sp_change_of : DSp := fun ds M Q _ => ∃ h s w, ds = [houseD h, standD s, .str (Wth.s w)] ∧ h.Ok ∧ Q (.int (gain h s w)) M
theorem ok_change_of {f : Addr} {fd : FuncData} (m_int : mg "int" = none) (F : Fun K "change_of" "change_of" s_change_of f fd) : DFn P w K mg base CX0 1 f fd ["house", "stand", "weather"] sp_change_of := by
  refine dfn_ok F sc_change_of (by walk_at "len") fun cdv A outer s H E hr => ?_
  have hu := hr.units
  refine ⟨_, (dss_cons (ds_asg (de_ix hu (dv 0) de_int (fun _ _ => rfl)) (dg_tup (is := [3, 4, 5]) (pg_tup rfl (pgs_cons (pg_name (i := 3) sc_change_of.nd rfl (Or.inl rfl)) (pgs_cons (pg_name (i := 4) sc_change_of.nd rfl (Or.inl rfl)) (pgs_cons (pg_name (i := 5) sc_change_of.nd rfl (Or.inl rfl)) pgs_nil)))) rfl))
        (dss_cons (ds_set (i := 6) sc_change_of.nd rfl (.inl rfl) (de_op op_addD (de_op op_mulD de_int (de_callTy call_intD (by rfl) m_int (by decide +kernel) (da_cons (de_ix hu (dv 1) de_int (fun _ _ => rfl)) da_nil))) (de_callTy call_intD (by rfl) m_int (by decide +kernel) (da_cons (de_cmp (op_eqDD hu) (dv 2) de_str (nomark _)) da_nil))))
        (dss_one (ds_ret (de_op op_subD (de_op op_mulD (dv 4) (de_callTy call_intD (by rfl) m_int (by decide +kernel) (da_cons (de_ix hu (dv 1) de_int (fun _ _ => rfl)) da_nil))) (de_ix hu (dv 5) (dv 6) (fun _ _ => rfl))))))), ?_⟩
  rintro ds M Q EX ⟨h, s, w, rfl, o, q⟩
  have q := fin.same q
  have hh := o.heat
  walk_at "st"
  walk_at "c"
  unfold gain at q
  cases hw : s.wd <;> rw [hw] at q <;> cases w <;> (refine k_ix rfl ?_; walk_at "st"; exact q)

abbrev s_passed : Stmt := topS 47
theorem sc_passed : FnScope ["house", "stand", "weather", "level"] ["house", "stand", "weather"] (defScope s_passed) := ⟨rfl, rfl, rfl, by decide +kernel, rfl, by decide +kernel, by decide +kernel⟩
def sp_passed : DSp := fun ds M Q _ => ∃ h s w, ds = [houseD h, standD s, .str (Wth.s w)] ∧ h.Ok ∧ Q (standD (passS h s w)) M
theorem ok_passed {f : Addr} {fd : FuncData} (c_change_of : Cal P w K mg base CX0 "change_of" 1 ["house", "stand", "weather"] sp_change_of) (c_period_of : Cal P w K mg base CX0 "period_of" 1 ["house"] sp_period_of) (m_min : mg "min" = none) (m_max : mg "max" = none) (F : Fun K "passed" "passed" s_passed f fd) : DFn P w K mg base CX0 2 f fd ["house", "stand", "weather"] sp_passed := by
  refine dfn_ok F sc_passed (by walk_at "len") fun cdv A outer s H E hr => ?_
  have hu := hr.units
  refine ⟨_, (dss_cons (ds_set (i := 3) sc_passed.nd rfl (.inl rfl) (de_op op_addD (de_ix hu (dv 1) de_int (fun _ _ => rfl)) (de_op op_mulD de_int (de_cal c_change_of (hr.mono (by decide)) (by rfl) pass0 (da_cons (dv 0) (da_cons (dv 1) (da_cons (dv 2) da_nil)))))))
        (dss_cons (ds_set (i := 3) sc_passed.nd rfl (.inl rfl) (de_callB (call_minD rfl) (by rfl) m_min (by decide +kernel) (da_cons (de_op op_mulD de_int (de_ix hu (de_ix hu (dv 0) de_int (fun _ _ => rfl)) de_int (fun _ _ => rfl))) (da_cons (de_callB (call_maxD rfl) (by rfl) m_max (by decide +kernel) (da_cons de_int (da_cons (dv 3) da_nil))) da_nil))))
        (dss_one (ds_ret (de_op op_addD (de_op op_addD (de_tup (da_cons (dv 3) da_nil)) (de_slice (dv 1) wp_int wp_int)) (de_tup (da_cons (de_op op_modD (de_op op_addD (de_ix hu (dv 1) de_int (fun _ _ => rfl)) de_int) (de_cal c_period_of (hr.mono (by decide)) (by rfl) pass0 (da_cons (dv 0) da_nil))) (da_cons (de_ix hu (dv 1) de_int (fun _ _ => rfl)) da_nil)))))))), ?_⟩
  rintro ds M Q EX ⟨h, s, w, rfl, o, q⟩
  have q := fin.same q
  walk_at "st"
  refine ⟨h, s, w, rfl, o, ?_⟩
  have pp := period_pos o
  walk_at "st"
  refine ⟨h, rfl, ?_⟩
  walk_at "st"
  exact q

abbrev s_step : Stmt := topS 48
theorem sc_step : FnScope ["house", "stand", "weather", "mine", "yours"] ["house", "stand", "weather"] (defScope s_step) := ⟨rfl, rfl, rfl, by decide +kernel, rfl, by decide +kernel, by decide +kernel⟩
def sp_step : DSp := fun ds M Q _ => ∃ h s w, ds = [houseD h, standD s, .str (Wth.s w)] ∧ h.Ok ∧ s.Ok h ∧ Q (.tup [standD (tickS h s w), pairD h s, standD (midS h s)]) M
theorem ok_step {f : Addr} {fd : FuncData} (c_looked : Cal P w K mg base CX0 "looked" 3 ["house", "stand", "who"] sp_looked) (c_passed : Cal P w K mg base CX0 "passed" 2 ["house", "stand", "weather"] sp_passed) (F : Fun K "step" "step" s_step f fd) : DFn P w K mg base CX0 4 f fd ["house", "stand", "weather"] sp_step := by
  refine dfn_ok F sc_step (by walk_at "len") fun cdv A outer s H E hr => ?_
  have hu := hr.units
  refine ⟨_, (dss_cons (ds_asg (de_cal c_looked (hr.mono (by decide)) (by rfl) pass0 (da_cons (dv 0) (da_cons (dv 1) (da_cons de_int da_nil)))) (dg_tup (is := [1, 3]) (pg_tup rfl (pgs_cons (pg_name (i := 1) sc_step.nd rfl (Or.inl rfl)) (pgs_cons (pg_name (i := 3) sc_step.nd rfl (Or.inl rfl)) pgs_nil))) rfl))
        (dss_cons (ds_asg (de_cal c_looked (hr.mono (by decide)) (by rfl) pass0 (da_cons (dv 0) (da_cons (dv 1) (da_cons de_int da_nil)))) (dg_tup (is := [1, 4]) (pg_tup rfl (pgs_cons (pg_name (i := 1) sc_step.nd rfl (Or.inl rfl)) (pgs_cons (pg_name (i := 4) sc_step.nd rfl (Or.inl rfl)) pgs_nil))) rfl))
        (dss_one (ds_ret (de_tup (da_cons (de_cal c_passed (hr.mono (by decide)) (by rfl) pass0 (da_cons (dv 0) (da_cons (dv 1) (da_cons (dv 2) da_nil)))) (da_cons (de_tup (da_cons (dv 3) (da_cons (dv 4) da_nil))) (da_cons (dv 1) da_nil)))))))), ?_⟩
  rintro ds M Q EX ⟨h, s, w, rfl, o, so, q⟩
  have q := fin.same q
  walk_at "st"
  refine ⟨h, s, false, rfl, o, so, ?_⟩
  walk_at "st"
  refine ⟨h, lookS h s false, true, rfl, o, lookS_ok o so false, ?_⟩
  walk_at "st"
  refine ⟨h, midS h s, w, rfl, o, ?_⟩
  walk_at "st"
  exact q
end
end L3

/-! The defs of books, houses and starts. -/
namespace L3
open PySem PySem.Spec PyProof.Rows L2
local macro_rules | `(tactic| walk_at "mem") => `(tactic| first | assumption | exact mset_same | (refine (mset_ne ?_).trans ?_ <;> first | assumption | exact Ne.symm (by assumption) | exact mset_same | (refine (mset_ne ?_).trans ?_ <;> first | assumption | exact Ne.symm (by assumption) | exact mset_same)))
local macro_rules | `(tactic| walk_at "line") => `(tactic| first | decide | (simp only [List.length_cons, List.length_nil, List.length_map, List.length_append]; first | decide | omega) | (refine sl_b ?_; simp only [List.length_cons, List.length_nil, List.length_map, List.length_append]; first | decide | omega))
local macro_rules | `(tactic| walk_at "s1") => `(tactic| first
  | ((with_reducible refine' k_var ?g0 ?_); (case g0 => exact rfl))
  | ((with_reducible refine' k_seqN ?g0 ?_); (case g0 => (try simp only [startD, g_cons, g_nil, List.map_cons, List.map_nil, List.length_cons, List.length_nil, Nat.reduceAdd, Nat.reduceSub, List.replicate_succ, List.replicate_zero, List.cons_append, List.nil_append, List.set_cons_zero, List.set_cons_succ, List.zip_cons_cons, List.zip_nil_right, List.zip_nil_left]); try exact rfl))
  | ((with_reducible refine' k_retN ?g0 ?_); (case g0 => (try simp only [startD, g_cons, g_nil, List.map_cons, List.map_nil, List.length_cons, List.length_nil, Nat.reduceAdd, Nat.reduceSub, List.replicate_succ, List.replicate_zero, List.cons_append, List.nil_append, List.set_cons_zero, List.set_cons_succ, List.zip_cons_cons, List.zip_nil_right, List.zip_nil_left]); try exact rfl))
  | (with_reducible refine k_nedev ?_)
  | (with_reducible refine k_ifS ?_)
  | (with_reducible refine k_next ?_)
  | (with_reducible refine k_drop ?_)
  | (with_reducible refine k_set ?_)
  | (with_reducible refine k_asg ?_)
  | (with_reducible refine k_sub ?_)
  | (with_reducible refine k_par ?_)
  | (with_reducible refine k_asP ?_)
  | (with_reducible refine k_par3 ?_)
  | (with_reducible refine k_asP3 ?_)
  | (with_reducible refine k_aug ?_)
  | (with_reducible refine k_for ?_)
  | (with_reducible refine k_B ?_)
  | (with_reducible refine k_asB ?_)
  | (with_reducible refine k_and ?_)
  | (with_reducible refine k_or ?_)
  | (with_reducible refine k_not ?_)
  | (with_reducible refine k_andV ?_)
  | (with_reducible refine k_orV ?_)
  | (with_reducible refine k_notV ?_)
  | (with_reducible refine k_chain ?_)
  | (with_reducible refine k_yes ?_)
  | (with_reducible refine k_if ?_)
  | (with_reducible refine k_c ?_)
  | (with_reducible refine k_op ?_)
  | (with_reducible refine k_nil ?_)
  | (with_reducible refine k_cons ?_)
  | (with_reducible refine k_tup ?_)
  | (with_reducible refine k_lst ?_)
  | (with_reducible refine k_call ?_)
  | (with_reducible refine k_fn ?_)
  | (with_reducible refine k_sl ?_)
  | (with_reducible refine k_app ?_)
  | (with_reducible refine k_pop ?_)
  | (with_reducible refine k_it ?_)
  | (with_reducible refine k_ik ?_)
  | (with_reducible refine k_il ?_)
  | (with_reducible refine k_ir ?_)
  | (with_reducible refine k_lc ?_)
  | (with_reducible refine k_addi ?_)
  | (with_reducible refine k_iaddi ?_)
  | (with_reducible refine k_eqi ?_)
  | (with_reducible refine k_nei ?_)
  | (with_reducible refine k_eqs ?_)
  | (with_reducible refine k_nes ?_)
  | (with_reducible refine k_eqb ?_)
  | (with_reducible refine k_neb ?_)
  | (with_reducible refine k_eqst ?_)
  | (with_reducible refine k_isN ?_)
  | (with_reducible refine k_notN ?_)
  | (with_reducible refine k_rsls ?_)
  | (with_reducible refine k_rsl ?_)
  | (with_reducible refine k_lent ?_)
  | (with_reducible refine k_i2 ?_)
  | (with_reducible refine k_toi ?_)
  | (with_reducible refine k_tob ?_)
  | (with_reducible refine k_itw ?_)
  | (with_reducible refine k_itt ?_)
  | (with_reducible refine k_lc2 ?_)
  | (with_reducible refine k_get ?_)
  | (with_reducible refine k_dc ?_)
  | ((with_reducible refine' k_ask ?g0 ?_); (case g0 => exact rfl))
  | ((with_reducible refine' k_ix ?g0 ?_); (case g0 => exact rfl))
  | ((with_reducible refine' k_lix ?g0 ?g1 ?_); (case g0 => walk_at "mem"); (case g1 => exact rfl))
  | ((with_reducible refine' k_int ?g0 ?_); (case g0 => first | exact trivial | exact cm2 | (show (0 : Int) < _; omega) | (show CMul _ _; exact .inl ⟨by omega, by omega⟩) | (show CMul _ _; exact .inr ⟨by omega, by omega⟩) | (show CDiv _ _; exact ⟨by omega, by omega⟩) | exact ⟨by decide, by decide⟩))
  | ((with_reducible refine' k_addt ?g0 ?_); (case g0 => walk_at "line"))
  | ((with_reducible refine' sl_s ?g0 ?_); (case g0 => walk_at "line"))
  | ((with_reducible refine' k_inT ?g0 ?g1 ?_); (case g0 => exact rfl); (case g1 => exact rfl))
  | ((with_reducible refine' k_ninT ?g0 ?g1 ?_); (case g0 => exact rfl); (case g1 => exact rfl))
  | ((with_reducible refine' k_inL ?g0 ?g1 ?g2 ?_); (case g0 => walk_at "mem"); (case g1 => exact rfl); (case g2 => exact rfl))
  | ((with_reducible refine' k_ninL ?g0 ?g1 ?g2 ?_); (case g0 => walk_at "mem"); (case g1 => exact rfl); (case g2 => exact rfl))
  | ((with_reducible refine' k_lenl ?g0 ?_); (case g0 => walk_at "mem"))
  | ((with_reducible refine' k_ninD ?g0 ?_); (case g0 => walk_at "mem"))
  | ((with_reducible refine' k_inD ?g0 ?_); (case g0 => walk_at "mem"))
  | ((with_reducible refine' k_rik ?g0 ?_); (case g0 => walk_at "mem"))
  | ((with_reducible refine' k_ril ?g0 ?_); (case g0 => walk_at "mem"))
  | ((with_reducible refine' k_isi ?g0 ?g1 ?_); (case g0 => exact rfl); (case g1 => exact rfl))
  | ((with_reducible refine' k_isl ?g0 ?_); (case g0 => walk_at "mem"))
  | ((with_reducible refine' k_rget ?g0 ?_); (case g0 => walk_at "mem"))
  | ((with_reducible refine' k_dix ?g0 ?g1 ?_); (case g0 => walk_at "mem"); (case g1 => assumption))
  | ((with_reducible refine' k_iaddl ?g0 ?g1 ?g2 ?_); (case g0 => walk_at "mem"); (case g1 => walk_at "mem"); (case g2 => walk_at "line"))
  | ((with_reducible refine' k_addl ?g0 ?g1 ?g2 ?_); (case g0 => walk_at "mem"); (case g1 => walk_at "mem"); (case g2 => walk_at "line"))
  | ((with_reducible refine' k_rall ?g0 ?g1 ?_); (case g0 => walk_at "mem"); (case g1 => exact rfl))
  | ((with_reducible refine' k_tot ?g0 ?_); (case g0 => walk_at "mem"))
  | ((with_reducible refine' k_t ?g0 ?_); (case g0 => exact rfl))
  | ((with_reducible refine' k_f ?g0 ?_); (case g0 => exact rfl)))
local macro_rules | `(tactic| walk_at "st") => `(tactic| (repeat (walk_at "s1")); try dsimp only)
local macro_rules | `(tactic| walk_at "c") => `(tactic| try simp only [inV_two, d_no, d_on, d_off, d_open, d_shut, d_no', d_on', d_off', d_open', d_shut', w_cold, w_cold', v_heat, reduceCtorEq, decide_true, decide_false, Bool.or_false, Bool.false_or, Bool.or_true, Bool.true_or, Bool.not_true, Bool.not_false, Bool.false_eq_true, Bool.true_eq_false, if_true, if_false, reduceIte])
local macro_rules | `(tactic| walk_at "len") => `(tactic| (intro ds M Q EX h; repeat (obtain ⟨x, h⟩ := h; try (subst x; exact rfl))))
def wordB : D → List Str → Option Bool
  | .str x, ws => some (decide (x ∈ ws))
  | .int _, _ => some false
  | .non, _ => some false
  | .tup _, _ => some false
  | _, _ => none
theorem toVs_strs : ∀ ws : List Str, toVs (ws.map D.str) = some (ws.map V.str)
  | [] => rfl
  | x :: ws => by rw [List.map_cons, toVs, toVs_strs ws]; rfl
theorem inV_strs (x : Str) : ∀ ws : List Str, inV (.str x) (ws.map V.str) = decide (x ∈ ws)
  | [] => rfl
  | y :: ws => by
    have ih := inV_strs x ws
    unfold inV at ih ⊢
    rw [List.map_cons, List.any_cons, ih, eqV_str, ← Bool.decide_or]
    exact decide_eq_decide.mpr (by rw [List.mem_cons, eq_comm])
theorem toBs_map {α : Type} (l : List α) : toBs (l.map fun _ => D.bl true) = some (l.map fun _ => true) := by
  induction l with
  | nil => rfl
  | cons a l ih => rw [List.map_cons, toBs, ih]; rfl
theorem all_true {α : Type} (l : List α) : (l.map fun _ => true).all id = true := by
  induction l with
  | nil => rfl
  | cons a l ih => rw [List.map_cons, List.all_cons, ih]; rfl
/-- a warmth, whole or a half -/
def frW (n : Nat) : D := if n % 2 = 0 then .tup [.int (.ofNat (n / 2)), .int 1] else .tup [.int (.ofNat n), .int 2]
def frT (n : Nat) : Nat := if n % 2 = 0 then n / 2 else n
def frB (n : Nat) : Nat := if n % 2 = 0 then 1 else 2
theorem frW_eq (n : Nat) : frW n = .tup [.int (.ofNat (frT n)), .int (.ofNat (frB n))] := by
  unfold frW frT frB
  split <;> rfl
theorem gcd2 (n : Nat) : Nat.gcd n 2 = if n % 2 = 0 then 2 else 1 := by
  rw [Nat.gcd_comm, Nat.gcd_rec]
  rcases Nat.mod_two_eq_zero_or_one n with h | h <;> rw [h] <;> rfl
section
variable {P : Program} {w : World} {K : PySem.W.Frag} {mg : Str → Option Value} {base : Heap}
abbrev s_is_within : Stmt := topS 19
theorem sc_is_within : FnScope ["value", "low", "high"] ["value", "low", "high"] (defScope s_is_within) := ⟨rfl, rfl, rfl, by decide +kernel, rfl, by decide +kernel, by decide +kernel⟩
def sp_is_within : DSp := fun ds M Q _ => ∃ v lo hi, ds = [.int v, .int lo, .int hi] ∧ Q (.bl (decide (lo ≤ v) && decide (v ≤ hi))) M
theorem ok_is_within {f : Addr} {fd : FuncData} (m_isinstance : mg "isinstance" = none) (m_int : mg "int" = none) (m_bool : mg "bool" = none) (F : Fun K "is_within" "is_within" s_is_within f fd) : DFn P w K mg base CX0 1 f fd ["value", "low", "high"] sp_is_within := by
  refine dfn_ok F sc_is_within (by walk_at "len") fun cdv A outer s H E hr => ?_
  have hu := hr.units
  refine ⟨_, (dss_one (ds_ret (de_and (de_callB call_isiD (by rfl) m_isinstance (by decide +kernel) (da_cons (dv 0) (da_cons (de_tyn (n := "int") (by rfl) m_int (by decide +kernel)) da_nil))) (de_and (de_not (de_callB call_isiD (by rfl) m_isinstance (by decide +kernel) (da_cons (dv 0) (da_cons (de_tyn (n := "bool") (by rfl) m_bool (by decide +kernel)) da_nil)))) (de_one (de_ch op_leD op_leD (dv 1) (dv 0) (dv 2))))))), ?_⟩
  rintro ds M Q EX ⟨v, lo, hi, rfl, q⟩
  have q := fin.same q
  walk_at "st"
  by_cases h : lo ≤ v
  · rw [decide_eq_true h] at q ⊢
    walk_at "st"
    exact q
  · rw [decide_eq_false h] at q ⊢
    walk_at "st"
    exact q

abbrev s_is_word : Stmt := topS 20
theorem sc_is_word : FnScope ["value", "words"] ["value", "words"] (defScope s_is_word) := ⟨rfl, rfl, rfl, by decide +kernel, rfl, by decide +kernel, by decide +kernel⟩
def sp_is_word : DSp := fun ds M Q _ => ∃ d ws b, ds = [d, .tup (ws.map D.str)] ∧ wordB d ws = some b ∧ Q (.bl b) M
theorem ok_is_word {f : Addr} {fd : FuncData} (m_isinstance : mg "isinstance" = none) (m_str : mg "str" = none) (F : Fun K "is_word" "is_word" s_is_word f fd) : DFn P w K mg base CX0 1 f fd ["value", "words"] sp_is_word := by
  refine dfn_ok F sc_is_word (by walk_at "len") fun cdv A outer s H E hr => ?_
  have hu := hr.units
  refine ⟨_, (dss_one (ds_ret (de_and (de_callB call_isiD (by rfl) m_isinstance (by decide +kernel) (da_cons (dv 0) (da_cons (de_tyn (n := "str") (by rfl) m_str (by decide +kernel)) da_nil))) (de_one (de_cmp (op_inDD hu) (dv 0) (dv 1) (by rfl)))))), ?_⟩
  rintro ds M Q EX ⟨d, ws, b, rfl, hb, q⟩
  have q := fin.same q
  walk_at "st"
  cases d with
  | str x =>
    cases hb
    refine k_isi rfl rfl ?_
    walk_at "st"
    refine k_inT rfl (toVs_strs ws) ?_
    rw [inV_strs]
    exact q
  | int x => cases hb; refine k_isi rfl rfl ?_; walk_at "st"; exact q
  | non => cases hb; refine k_isi rfl rfl ?_; walk_at "st"; exact q
  | tup x => cases hb; refine k_isi rfl rfl ?_; walk_at "st"; exact q
  | _ => cases hb

abbrev s_is_tries : Stmt := topS 21
theorem sc_is_tries : FnScope ["value", "one"] ["value"] (defScope s_is_tries) := ⟨rfl, rfl, rfl, by decide +kernel, rfl, by decide +kernel, by decide +kernel⟩
def sp_is_tries : DSp := fun ds M Q _ => ∃ ts : List Deed, ds = [.tup (ts.map fun d : Deed => D.str d.s)] ∧ (∀ d ∈ ts, d ≠ .no) ∧ ts.length ≤ 2 ∧ ts.Nodup ∧ Q (.bl true) M
theorem ok_is_tries {f : Addr} {fd : FuncData} (c_is_word : Cal P w K mg base CX0 "is_word" 1 ["value", "words"] sp_is_word) (m_isinstance : mg "isinstance" = none) (m_len : mg "len" = none) (m_all : mg "all" = none) (m_tuple : mg "tuple" = none) (k_DEEDS : Con mg K "DEEDS" (.tup [.str "off", .str "on", .str "open", .str "shut"])) (F : Fun K "is_tries" "is_tries" s_is_tries f fd) : DFn P w K mg base CX0 2 f fd ["value"] sp_is_tries := by
  refine dfn_ok F sc_is_tries (by walk_at "len") fun cdv A outer s H E hr => ?_
  have hu := hr.units
  refine ⟨_, (dss_cons (ds_if (PW.pt (dw_or (dt_not (dt_val (de_callB call_isiD (by rfl) m_isinstance (by decide +kernel) (da_cons (dv 0) (da_cons (de_tyn (n := "tuple") (by rfl) m_tuple (by decide +kernel)) da_nil))))) (dw_or (dt_cmp op_gtD (de_callB call_lenD (by rfl) m_len PySem.boot_len (da_cons (dv 0) da_nil)) de_int (nomark _)) (dw_or1 (dt_not (dt_val (de_callB (call_allD rfl) (by rfl) m_all (by decide +kernel) (da_cons (de_lc (own := [("one", 1)]) rfl sc_is_tries.nd (di_tup (dv 0)) (blkOk_by (own := [("one", 1)]) (N := ["value", "one"]) (sc := defScope s_is_tries) (by decide +kernel)) (fun _ _ _ _ _ => (dg_name (pg_name (i := 1) sc_is_tries.nd rfl (Or.inl rfl)))) (fun _ _ _ _ _ => dts_nil) (fun _ _ _ _ _ => (de_cal c_is_word (hr.mono (by decide)) (by rfl) pass0 (da_cons (dv 1) (da_cons (de_con k_DEEDS (by rfl)) da_nil))))) da_nil)))))))) (dss_one (ds_ret de_bl)) dss_nil)
        (dss_one (ds_ret (de_or (de_cmp op_ltD (de_callB call_lenD (by rfl) m_len PySem.boot_len (da_cons (dv 0) da_nil)) de_int (nomark _)) (de_one (de_cmp (op_neDD hu) (de_ix hu (dv 0) de_int (fun _ _ => rfl)) (de_ix hu (dv 0) de_int (fun _ _ => rfl)) (nomark _))))))), ?_⟩
  rintro ds M Q EX ⟨ts, rfl, hn, hl, hd, q⟩
  have q := fin.same q
  walk_at "st"
  rw [List.length_map]
  refine k_f (decide_eq_false (by omega)) ?_
  walk_at "st"
  refine lc_mapS ts (fun d => .str d.s) (fun _ => .bl true) srcC_ok (line3 (by omega)) (fun a acc d ha hdt R hR => ?_) fun a ha => ?_
  · refine k_ask rfl ⟨by simp, ?_⟩
    walk_at "st"
    refine ⟨.str d.s, ["off", "on", "open", "shut"], true, rfl, ?_, ?_⟩
    · have := hn d hdt
      cases d
      · exact absurd rfl this
      all_goals rfl
    · exact hR
  · walk_at "st"
    refine k_rall mset_same (toBs_map ts) ?_
    rw [all_true]
    walk_at "st"
    rw [List.length_map]
    match ts, hl, hd with
    | [], _, _ => exact q.new ha
    | [x], _, _ => exact q.new ha
    | [x, y], _, hd =>
      refine k_f (decide_eq_false (by simp)) ?_
      walk_at "st"
      have hxy : x ≠ y := by simpa using hd
      rw [decide_eq_false fun e => hxy (deed_inj e)]
      exact q.new ha

abbrev s_is_line : Stmt := topS 22
theorem sc_is_line : FnScope ["value", "many"] ["value", "many"] (defScope s_is_line) := ⟨rfl, rfl, rfl, by decide +kernel, rfl, by decide +kernel, by decide +kernel⟩
def sp_is_line : DSp := fun ds M Q _ => ∃ (l : Line) (n : Nat), ds = [lineD l, .int (.ofNat n)] ∧ l.Ok n ∧ Q (.bl true) M
theorem ok_is_line {f : Addr} {fd : FuncData} (c_is_within : Cal P w K mg base CX0 "is_within" 1 ["value", "low", "high"] sp_is_within) (c_is_tries : Cal P w K mg base CX0 "is_tries" 2 ["value"] sp_is_tries) (m_isinstance : mg "isinstance" = none) (m_len : mg "len" = none) (m_tuple : mg "tuple" = none) (F : Fun K "is_line" "is_line" s_is_line f fd) : DFn P w K mg base CX0 3 f fd ["value", "many"] sp_is_line := by
  refine dfn_ok F sc_is_line (by walk_at "len") fun cdv A outer s H E hr => ?_
  have hu := hr.units
  refine ⟨_, (dss_cons (ds_if (PW.pt (dw_or (dt_not (dt_val (de_callB call_isiD (by rfl) m_isinstance (by decide +kernel) (da_cons (dv 0) (da_cons (de_tyn (n := "tuple") (by rfl) m_tuple (by decide +kernel)) da_nil))))) (dw_or (dt_cmp (op_neDD hu) (de_callB call_lenD (by rfl) m_len PySem.boot_len (da_cons (dv 0) da_nil)) de_int (nomark _)) (dw_or1 (dt_not (dt_val (de_cal c_is_tries (hr.mono (by decide)) (by rfl) pass0 (da_cons (de_ix hu (dv 0) de_int (fun _ _ => rfl)) da_nil)))))))) (dss_one (ds_ret de_bl)) dss_nil)
        (dss_one (ds_ret (de_cal c_is_within (hr.mono (by decide)) (by rfl) pass0 (da_cons (de_ix hu (dv 0) de_int (fun _ _ => rfl)) (da_cons de_int (da_cons (de_op op_subD (dv 1) de_int) da_nil))))))), ?_⟩
  rintro ds M Q EX ⟨l, n, rfl, o, q⟩
  have q := fin.same q
  walk_at "st"
  refine ⟨l.tries, rfl, o.no, o.len, o.nd, ?_⟩
  walk_at "st"
  refine ⟨_, _, _, rfl, ?_⟩
  have := o.to
  rw [decide_eq_true (by exact Int.natCast_nonneg _), decide_eq_true (by show (l.to : Int) ≤ (n : Int) - 1; omega)]
  exact q

abbrev s_is_book_value : Stmt := topS 23
theorem sc_is_book_value : FnScope ["value", "page", "one"] ["value"] (defScope s_is_book_value) := ⟨rfl, rfl, rfl, by decide +kernel, rfl, by decide +kernel, by decide +kernel⟩
def sp_is_book_value : DSp := fun ds M Q _ => ∃ (b : List Page), ds = [bookD b] ∧ 1 ≤ b.length ∧ b.length ≤ 3 ∧ (∀ p ∈ b, p.Ok b.length) ∧ Q (.bl true) M
theorem ok_is_book_value {f : Addr} {fd : FuncData} (c_is_line : Cal P w K mg base CX0 "is_line" 3 ["value", "many"] sp_is_line) (m_isinstance : mg "isinstance" = none) (m_tuple : mg "tuple" = none) (m_len : mg "len" = none) (m_all : mg "all" = none) (k_MOST_PAGES : Con mg K "MOST_PAGES" (.int 3)) (F : Fun K "is_book_value" "is_book_value" s_is_book_value f fd) : DFn P w K mg base CX0 4 f fd ["value"] sp_is_book_value := by
  refine dfn_ok F sc_is_book_value (by walk_at "len") fun cdv A outer s H E hr => ?_
  have hu := hr.units
  refine ⟨_, (dss_cons (ds_if (PW.pt (dw_or (dt_not (dt_val (de_callB call_isiD (by rfl) m_isinstance (by decide +kernel) (da_cons (dv 0) (da_cons (de_tyn (n := "tuple") (by rfl) m_tuple (by decide +kernel)) da_nil))))) (dw_or1 (dt_not (dt_ch op_leD op_leD de_int (de_callB call_lenD (by rfl) m_len PySem.boot_len (da_cons (dv 0) da_nil)) (de_con k_MOST_PAGES (by rfl))))))) (dss_one (ds_ret de_bl)) dss_nil)
        (dss_cons (ds_for PassesOwn.never rfl (di_tup (dv 0)) (dg_name (pg_name (i := 1) sc_is_book_value.nd rfl (Or.inl rfl))) (dss_one (ds_if (PW.pt (dw_or (dt_not (dt_val (de_callB call_isiD (by rfl) m_isinstance (by decide +kernel) (da_cons (dv 1) (da_cons (de_tyn (n := "tuple") (by rfl) m_tuple (by decide +kernel)) da_nil))))) (dw_or (dt_cmp (op_neDD hu) (de_callB call_lenD (by rfl) m_len PySem.boot_len (da_cons (dv 1) da_nil)) de_int (nomark _)) (dw_or1 (dt_not (dt_val (de_callB (call_allD rfl) (by rfl) m_all (by decide +kernel) (da_cons (de_lc (own := [("one", 2)]) rfl sc_is_book_value.nd (di_tup (dv 1)) (blkOk_by (own := [("one", 2)]) (N := ["value", "page", "one"]) (sc := defScope s_is_book_value) (by decide +kernel)) (fun _ _ _ _ _ => (dg_name (pg_name (i := 2) sc_is_book_value.nd rfl (Or.inl rfl)))) (fun _ _ _ _ _ => dts_nil) (fun _ _ _ _ _ => (de_cal c_is_line (hr.mono (by decide)) (by rfl) pass0 (da_cons (dv 2) (da_cons (de_callB call_lenD (by rfl) m_len PySem.boot_len (da_cons (dv 0) da_nil)) da_nil))))) da_nil)))))))) (dss_one (ds_ret de_bl)) dss_nil)))
        (dss_one (ds_ret de_bl)))), ?_⟩
  rintro ds M Q EX ⟨b, rfl, h1, h2, hp, q⟩
  have q := fin.same q
  unfold bookD at *
  walk_at "st"
  rw [List.length_map]
  refine k_t (decide_eq_true (by omega)) ?_
  walk_at "st"
  rw [decide_eq_true (show (b.length : Int) ≤ 3 by omega)]
  walk_at "st"
  refine ⟨_, fun i Γ' M' => Γ'.getD 0 none = some (.tup (b.map pageD)) ∧ Γ'.length = 3 ∧ Le M M', fun _ _ _ _ => rfl, ⟨rfl, rfl, Le.rfl'⟩, fun i d Γ' M' hi ⟨g1, g3, g2⟩ => ?_, fun Γ' M' ⟨g1, g3, g2⟩ => ?_⟩
  · rw [List.getElem?_map] at hi
    obtain ⟨p, hpi, rfl⟩ := Option.map_eq_some_iff.mp hi
    have po := hp p (List.mem_of_getElem? hpi)
    match Γ', g3, g1 with
    | [_, x2, x3], _, g1 =>
      cases g1
      refine k_ask rfl ?_
      unfold pageD
      walk_at "st"
      refine lc_mapS [p.c, p.h, p.w] lineD (fun _ => .bl true) srcC_ok (line3 (by simp)) (fun a acc d ha hdt R hR => ?_) fun a ha => ?_
      · refine k_ask rfl ⟨by simp, ?_⟩
        walk_at "st"
        rw [List.length_map]
        refine ⟨d, b.length, rfl, ?_, hR⟩
        rcases List.mem_cons.mp hdt with rfl | h
        · exact po.c
        obtain rfl | h := List.mem_cons.mp h
        · exact po.h
        obtain rfl | h := List.mem_cons.mp h
        · exact po.w
        cases h
      · walk_at "st"
        exact ⟨rfl, rfl, g2.tr (Le.new ha)⟩
  · walk_at "st"
    obtain ⟨M0, l0, q0⟩ := q
    exact ⟨M0, l0.tr g2, q0⟩

abbrev s_is_room_value : Stmt := topS 26
theorem sc_is_room_value : FnScope ["value", "one"] ["value"] (defScope s_is_room_value) := ⟨rfl, rfl, rfl, by decide +kernel, rfl, by decide +kernel, by decide +kernel⟩
def sp_is_room_value : DSp := fun ds M Q _ => ∃ h, ds = [roomD h] ∧ h.Ok ∧ Q (.bl true) M
theorem ok_is_room_value {f : Addr} {fd : FuncData} (c_is_within : Cal P w K mg base CX0 "is_within" 1 ["value", "low", "high"] sp_is_within) (m_all : mg "all" = none) (m_isinstance : mg "isinstance" = none) (m_len : mg "len" = none) (m_tuple : mg "tuple" = none) (F : Fun K "is_room_value" "is_room_value" s_is_room_value f fd) : DFn P w K mg base CX0 2 f fd ["value"] sp_is_room_value := by
  refine dfn_ok F sc_is_room_value (by walk_at "len") fun cdv A outer s H E hr => ?_
  have hu := hr.units
  refine ⟨_, (dss_cons (ds_if (PW.pt (dw_or (dt_not (dt_val (de_callB call_isiD (by rfl) m_isinstance (by decide +kernel) (da_cons (dv 0) (da_cons (de_tyn (n := "tuple") (by rfl) m_tuple (by decide +kernel)) da_nil))))) (dw_or (dt_cmp (op_neDD hu) (de_callB call_lenD (by rfl) m_len PySem.boot_len (da_cons (dv 0) da_nil)) de_int (nomark _)) (dw_or1 (dt_not (dt_val (de_cal c_is_within (hr.mono (by decide)) (by rfl) pass0 (da_cons (de_ix hu (dv 0) de_int (fun _ _ => rfl)) (da_cons de_int (da_cons de_int da_nil)))))))))) (dss_one (ds_ret de_bl)) dss_nil)
        (dss_cons (ds_if (PW.pt (dw_or (dt_not (dt_val (de_cal c_is_within (hr.mono (by decide)) (by rfl) pass0 (da_cons (de_ix hu (dv 0) de_int (fun _ _ => rfl)) (da_cons de_int (da_cons de_int da_nil)))))) (dw_or (dt_not (dt_val (de_callB call_isiD (by rfl) m_isinstance (by decide +kernel) (da_cons (de_ix hu (dv 0) de_int (fun _ _ => rfl)) (da_cons (de_tyn (n := "tuple") (by rfl) m_tuple (by decide +kernel)) da_nil))))) (dw_or1 (dt_cmp (op_neDD hu) (de_callB call_lenD (by rfl) m_len PySem.boot_len (da_cons (de_ix hu (dv 0) de_int (fun _ _ => rfl)) da_nil)) de_int (nomark _)))))) (dss_one (ds_ret de_bl)) dss_nil)
        (dss_one (ds_ret (de_callB (call_allD rfl) (by rfl) m_all (by decide +kernel) (da_cons (de_lc (own := [("one", 1)]) rfl sc_is_room_value.nd (di_tup (de_ix hu (dv 0) de_int (fun _ _ => rfl))) (blkOk_by (own := [("one", 1)]) (N := ["value", "one"]) (sc := defScope s_is_room_value) (by decide +kernel)) (fun _ _ _ _ _ => (dg_name (pg_name (i := 1) sc_is_room_value.nd rfl (Or.inl rfl)))) (fun _ _ _ _ _ => dts_nil) (fun _ _ _ _ _ => (de_cal c_is_within (hr.mono (by decide)) (by rfl) pass0 (da_cons (dv 1) (da_cons de_int (da_cons de_int da_nil)))))) da_nil)))))), ?_⟩
  rintro ds M Q EX ⟨h, rfl, o, q⟩
  have q := fin.same q
  walk_at "st"
  have h1 := o.top
  have h2 := o.heat
  refine ⟨_, _, _, rfl, ?_⟩
  rw [decide_eq_true h1.1, decide_eq_true h1.2]
  walk_at "st"
  refine ⟨_, _, _, rfl, ?_⟩
  rw [decide_eq_true h2.1, decide_eq_true h2.2]
  walk_at "st"
  refine lc_mapS [h.l0, h.l1, h.l2, h.l3] D.int (fun _ => .bl true) srcC_ok (line3 (by simp)) (fun a acc d ha hdt R hR => ?_) fun a ha => ?_
  · refine k_ask rfl ⟨by simp, ?_⟩
    walk_at "st"
    refine ⟨_, _, _, rfl, ?_⟩
    have hd : 0 ≤ d ∧ d ≤ 3 := by
      rcases List.mem_cons.mp hdt with rfl | h
      · exact o.l0
      obtain rfl | h := List.mem_cons.mp h
      · exact o.l1
      obtain rfl | h := List.mem_cons.mp h
      · exact o.l2
      obtain rfl | h := List.mem_cons.mp h
      · exact o.l3
      cases h
    rw [decide_eq_true hd.1, decide_eq_true hd.2]
    exact hR
  · walk_at "st"
    exact q.new ha

abbrev s_is_person_value : Stmt := topS 27
theorem sc_is_person_value : FnScope ["value", "top"] ["value", "top"] (defScope s_is_person_value) := ⟨rfl, rfl, rfl, by decide +kernel, rfl, by decide +kernel, by decide +kernel⟩
def sp_is_person_value : DSp := fun ds M Q _ => ∃ p top, ds = [persD p, .int top] ∧ p.Ok top ∧ Q (.bl true) M
theorem ok_is_person_value {f : Addr} {fd : FuncData} (c_is_book_value : Cal P w K mg base CX0 "is_book_value" 4 ["value"] sp_is_book_value) (c_is_within : Cal P w K mg base CX0 "is_within" 1 ["value", "low", "high"] sp_is_within) (m_isinstance : mg "isinstance" = none) (m_len : mg "len" = none) (m_tuple : mg "tuple" = none) (F : Fun K "is_person_value" "is_person_value" s_is_person_value f fd) : DFn P w K mg base CX0 5 f fd ["value", "top"] sp_is_person_value := by
  refine dfn_ok F sc_is_person_value (by walk_at "len") fun cdv A outer s H E hr => ?_
  have hu := hr.units
  refine ⟨_, (dss_cons (ds_if (PW.pt (dw_or (dt_not (dt_val (de_callB call_isiD (by rfl) m_isinstance (by decide +kernel) (da_cons (dv 0) (da_cons (de_tyn (n := "tuple") (by rfl) m_tuple (by decide +kernel)) da_nil))))) (dw_or (dt_cmp (op_neDD hu) (de_callB call_lenD (by rfl) m_len PySem.boot_len (da_cons (dv 0) da_nil)) de_int (nomark _)) (dw_or1 (dt_not (dt_val (de_cal c_is_within (hr.mono (by decide)) (by rfl) pass0 (da_cons (de_ix hu (dv 0) de_int (fun _ _ => rfl)) (da_cons de_int (da_cons de_int da_nil)))))))))) (dss_one (ds_ret de_bl)) dss_nil)
        (dss_cons (ds_if (PW.pt (dw_or (dt_not (dt_val (de_cal c_is_within (hr.mono (by decide)) (by rfl) pass0 (da_cons (de_ix hu (dv 0) de_int (fun _ _ => rfl)) (da_cons de_int (da_cons (dv 1) da_nil)))))) (dw_or1 (dt_not (dt_val (de_cal c_is_within (hr.mono (by decide)) (by rfl) pass0 (da_cons (de_ix hu (dv 0) de_int (fun _ _ => rfl)) (da_cons (de_ix hu (dv 0) de_int (fun _ _ => rfl)) (da_cons (dv 1) da_nil))))))))) (dss_one (ds_ret de_bl)) dss_nil)
        (dss_one (ds_ret (de_cal c_is_book_value (hr.mono (by decide)) (by rfl) pass0 (da_cons (de_ix hu (dv 0) de_int (fun _ _ => rfl)) da_nil)))))), ?_⟩
  rintro ds M Q EX ⟨p, top, rfl, o, q⟩
  have q := fin.same q
  walk_at "st"
  have h1 := o.beat
  have h2 := o.low
  have h3 := o.high
  refine ⟨_, _, _, rfl, ?_⟩
  rw [decide_eq_true (show 1 ≤ p.beat by omega), decide_eq_true (show p.beat ≤ 2 by omega)]
  walk_at "st"
  refine ⟨_, _, _, rfl, ?_⟩
  rw [decide_eq_true h2.1, decide_eq_true (show p.low ≤ top by omega)]
  walk_at "st"
  refine ⟨_, _, _, rfl, ?_⟩
  rw [decide_eq_true h2.2, decide_eq_true h3]
  walk_at "st"
  exact ⟨p.book, rfl, o.len.1, o.len.2, o.book, q⟩

abbrev s_divisor : Stmt := topS 29
theorem sc_divisor : FnScope ["one", "other"] ["one", "other"] (defScope s_divisor) := ⟨rfl, rfl, rfl, by decide +kernel, rfl, by decide +kernel, by decide +kernel⟩
def sp_divisor : DSp := fun ds M Q _ => ∃ a b : Nat, ds = [.int (.ofNat a), .int (.ofNat b)] ∧ Q (.int (.ofNat (Nat.gcd a b))) M
theorem ok_divisor {f : Addr} {fd : FuncData} (F : Fun K "divisor" "divisor" s_divisor f fd) : DFn P w K mg base CX0 1 f fd ["one", "other"] sp_divisor := by
  refine dfn_ok F sc_divisor (by walk_at "len") fun cdv A outer s H E hr => ?_
  have hu := hr.units
  refine ⟨_, (dss_cons (ds_while PassesOwn.never (dt_cmp op_gtD (dv 1) de_int (nomark _)) (dss_one (ds_par (i := 0) (j := 1) (ps_par (by rfl) sc_divisor.nd rfl rfl (by decide) rfl rfl (da_cons (dv 1) (da_cons (de_op op_modD (dv 0) (dv 1)) da_nil)) (by rfl)))))
        (dss_one (ds_ret (dv 0)))), ?_⟩
  rintro ds M Q EX ⟨a, b, rfl, q⟩
  have q := fin.same q
  walk_at "st"
  refine ⟨fun m Γ M' => ∃ x y : Nat, Γ = [some (.int (.ofNat x)), some (.int (.ofNat y))] ∧ M' = M ∧ y = m ∧ Nat.gcd x y = Nat.gcd a b, ⟨b, a, b, rfl, rfl, rfl, rfl⟩, ?_⟩
  rintro m Γ M' ⟨x, y, rfl, rfl, rfl, hg⟩
  walk_at "st"
  by_cases h : 0 < y
  · refine k_t (decide_eq_true (show (0 : Int) < (y : Int) by omega)) ?_
    refine k_par ?_
    walk_at "st"
    refine ⟨show (0 : Int) < (y : Int) by omega, ?_⟩
    walk_at "st"
    refine ⟨x % y, Nat.mod_lt _ h, y, x % y, rfl, rfl, rfl, ?_⟩
    rw [← hg, Nat.gcd_comm y, ← Nat.gcd_rec, Nat.gcd_comm]
  · have : y = 0 := by omega
    subst this
    refine k_f rfl ?_
    walk_at "st"
    rw [Nat.gcd_zero_right] at hg
    rw [hg]
    exact q

abbrev s_lowest : Stmt := topS 30
theorem sc_lowest : FnScope ["top", "below", "part"] ["top", "below"] (defScope s_lowest) := ⟨rfl, rfl, rfl, by decide +kernel, rfl, by decide +kernel, by decide +kernel⟩
def sp_lowest : DSp := fun ds M Q _ => ∃ n : Nat, ds = [.int (.ofNat n), .int 2] ∧ Q (frW n) M
theorem ok_lowest {f : Addr} {fd : FuncData} (c_divisor : Cal P w K mg base CX0 "divisor" 1 ["one", "other"] sp_divisor) (F : Fun K "lowest" "lowest" s_lowest f fd) : DFn P w K mg base CX0 2 f fd ["top", "below"] sp_lowest := by
  refine dfn_ok F sc_lowest (by walk_at "len") fun cdv A outer s H E hr => ?_
  have hu := hr.units
  refine ⟨_, (dss_cons (ds_set (i := 2) sc_lowest.nd rfl (.inl rfl) (de_cal c_divisor (hr.mono (by decide)) (by rfl) pass0 (da_cons (dv 0) (da_cons (dv 1) da_nil))))
        (dss_one (ds_ret (de_tup (da_cons (de_op op_fdivD (dv 0) (dv 2)) (da_cons (de_op op_fdivD (dv 1) (dv 2)) da_nil)))))), ?_⟩
  rintro ds M Q EX ⟨n, rfl, q⟩
  have q := fin.same q
  walk_at "st"
  refine ⟨n, 2, rfl, ?_⟩
  rw [gcd2]
  unfold frW at q
  by_cases h : n % 2 = 0
  · rw [if_pos h] at q ⊢
    walk_at "st"
    exact q
  · rw [if_neg h] at q ⊢
    walk_at "st"
    have e1 : (Int.ofNat n) / (Int.ofNat 1) = Int.ofNat n := Int.ediv_one _
    rw [e1]
    exact q

abbrev s_warmth_of : Stmt := topS 34
theorem sc_warmth_of : FnScope ["level"] ["level"] (defScope s_warmth_of) := ⟨rfl, rfl, rfl, by decide +kernel, rfl, by decide +kernel, by decide +kernel⟩
def sp_warmth_of : DSp := fun ds M Q _ => ∃ n : Nat, ds = [.int (.ofNat n)] ∧ Q (frW n) M
theorem ok_warmth_of {f : Addr} {fd : FuncData} (c_lowest : Cal P w K mg base CX0 "lowest" 2 ["top", "below"] sp_lowest) (F : Fun K "warmth_of" "warmth_of" s_warmth_of f fd) : DFn P w K mg base CX0 3 f fd ["level"] sp_warmth_of := by
  refine dfn_ok F sc_warmth_of (by walk_at "len") fun cdv A outer s H E hr => ?_
  have hu := hr.units
  refine ⟨_, (dss_one (ds_ret (de_cal c_lowest (hr.mono (by decide)) (by rfl) pass0 (da_cons (dv 0) (da_cons de_int da_nil))))), ?_⟩
  rintro ds M Q EX ⟨n, rfl, q⟩
  have q := fin.same q
  walk_at "st"
  exact ⟨n, rfl, q⟩

abbrev s_level_of : Stmt := topS 33
theorem sc_level_of : FnScope ["warmth", "whole"] ["warmth"] (defScope s_level_of) := ⟨rfl, rfl, rfl, by decide +kernel, rfl, by decide +kernel, by decide +kernel⟩
def sp_level_of : DSp := fun ds M Q _ => ∃ n : Nat, ds = [frW n] ∧ Q (.int (.ofNat n)) M
theorem ok_level_of {f : Addr} {fd : FuncData} (m_int : mg "int" = none) (F : Fun K "level_of" "level_of" s_level_of f fd) : DFn P w K mg base CX0 1 f fd ["warmth"] sp_level_of := by
  refine dfn_ok F sc_level_of (by walk_at "len") fun cdv A outer s H E hr => ?_
  have hu := hr.units
  refine ⟨_, (dss_cons (ds_set (i := 1) sc_level_of.nd rfl (.inl rfl) (de_op op_fdivD (de_ix hu (dv 0) de_int (fun _ _ => rfl)) (de_ix hu (dv 0) de_int (fun _ _ => rfl))))
        (dss_one (ds_ret (de_op op_addD (de_op op_mulD de_int (dv 1)) (de_callTy call_intD (by rfl) m_int (by decide +kernel) (da_cons (de_cmp (op_neDD hu) (de_ix hu (dv 0) de_int (fun _ _ => rfl)) (de_op op_mulD (dv 1) (de_ix hu (dv 0) de_int (fun _ _ => rfl))) (nomark _)) da_nil)))))), ?_⟩
  rintro ds M Q EX ⟨n, rfl, q⟩
  have q := fin.same q
  unfold frW
  by_cases h : n % 2 = 0
  · rw [if_pos h]
    walk_at "st"
    have e : (2 * (Int.ofNat (n / 2) / 1) + bI (!decide (Int.ofNat (n / 2) = Int.ofNat (n / 2) / 1 * 1))) = Int.ofNat n := by
      rw [Int.ediv_one, Int.mul_one, decide_eq_true rfl]
      show 2 * ((n / 2 : Nat) : Int) + 0 = (n : Int)
      omega
    walk_at "st"
    rw [e]
    exact q
  · rw [if_neg h]
    walk_at "st"
    have e : (2 * (Int.ofNat n / 2) + bI (!decide (Int.ofNat n = Int.ofNat n / 2 * 2))) = Int.ofNat n := by
      rw [decide_eq_false (by show ¬ ((n : Int) = (n : Int) / 2 * 2); omega)]
      show 2 * ((n : Int) / 2) + 1 = (n : Int)
      omega
    walk_at "st"
    rw [e]
    exact q

/-! starts -/
structure St0 where
  n : Nat
  ht : Bool
  wd : Bool
def startDt (s : St0) : D := .tup [frW s.n, .bl s.ht, .bl s.wd]
def begin0 (s : St0) : Stand := ⟨.ofNat s.n, s.ht, s.wd, 0, 0, 0⟩
def row4 (n : Nat) : List St0 := [⟨n, false, false⟩, ⟨n, false, true⟩, ⟨n, true, false⟩, ⟨n, true, true⟩]
def starts0 : Nat → List St0
  | 0 => []
  | n + 1 => starts0 n ++ row4 n
theorem starts0_len : ∀ n, (starts0 n).length = 4 * n
  | 0 => rfl
  | n + 1 => by rw [starts0, List.length_append, starts0_len n]; simp [row4]; omega
theorem starts0_mem {n : Nat} {s : St0} (h : s ∈ starts0 n) : s.n < n := by
  induction n with
  | zero => cases h
  | succ n ih =>
    rw [starts0, List.mem_append] at h
    rcases h with h | h
    · exact Nat.lt_succ_of_lt (ih h)
    · simp [row4] at h
      rcases h with rfl | rfl | rfl | rfl <;> exact Nat.lt_succ_self _
def starts (h : House) : List St0 := starts0 (2 * h.top + 1).toNat
theorem starts_len {h : House} (o : h.Ok) : (starts h).length ≤ 36 := by
  have := o.top
  unfold starts
  rw [starts0_len]
  omega
theorem starts_n {h : House} (o : h.Ok) {s : St0} (m : s ∈ starts h) : (Int.ofNat s.n) ≤ 2 * h.top := by
  have h1 := starts0_mem m
  have h2 := o.top
  have : (Int.ofNat s.n) = (s.n : Int) := rfl
  omega
theorem begin0_ok {h : House} (o : h.Ok) {s : St0} (m : s ∈ starts h) : (begin0 s).Ok h := by
  have p := period_pos o
  refine ⟨⟨Int.natCast_nonneg _, starts_n o m⟩, ⟨Int.le_refl _, by show (0 : Int) < _; omega⟩, ?_, ?_⟩
  · have := o.a.len
    show 0 < _
    omega
  · have := o.b.len
    show 0 < _
    omega

abbrev s_begun : Stmt := topS 40
theorem sc_begun : FnScope ["house", "start"] ["house", "start"] (defScope s_begun) := ⟨rfl, rfl, rfl, by decide +kernel, rfl, by decide +kernel, by decide +kernel⟩
def sp_begun : DSp := fun ds M Q _ => ∃ (d : D) (s : St0), ds = [d, startDt s] ∧ Q (standD (begin0 s)) M
theorem ok_begun {f : Addr} {fd : FuncData} (c_level_of : Cal P w K mg base CX0 "level_of" 1 ["warmth"] sp_level_of) (F : Fun K "begun" "begun" s_begun f fd) : DFn P w K mg base CX0 2 f fd ["house", "start"] sp_begun := by
  refine dfn_ok F sc_begun (by walk_at "len") fun cdv A outer s H E hr => ?_
  have hu := hr.units
  refine ⟨_, (dss_one (ds_ret (de_tup (da_cons (de_cal c_level_of (hr.mono (by decide)) (by rfl) pass0 (da_cons (de_ix hu (dv 1) de_int (fun _ _ => rfl)) da_nil)) (da_cons (de_ix hu (dv 1) de_int (fun _ _ => rfl)) (da_cons (de_ix hu (dv 1) de_int (fun _ _ => rfl)) (da_cons de_int (da_cons (de_tup (da_cons de_int (da_cons de_int da_nil))) da_nil)))))))), ?_⟩
  rintro ds M Q EX ⟨d, s, rfl, q⟩
  have q := fin.same q
  walk_at "st"
  refine ⟨s.n, rfl, ?_⟩
  walk_at "st"
  exact q

abbrev s_starts_of : Stmt := topS 35
theorem sc_starts_of : FnScope ["house", "found", "level", "heater", "window"] ["house"] (defScope s_starts_of) := ⟨rfl, rfl, rfl, by decide +kernel, rfl, by decide +kernel, by decide +kernel⟩
def sp_starts_of : DSp := fun ds M Q _ => ∃ h, ds = [houseD h] ∧ h.Ok ∧ ∀ a, M a = none → Q (.obj a) (mset M a (.lst ((starts h).map startDt)))
theorem ok_starts_of {f : Addr} {fd : FuncData} (c_warmth_of : Cal P w K mg base CX0 "warmth_of" 3 ["level"] sp_warmth_of) (m_range : mg "range" = none) (F : Fun K "starts_of" "starts_of" s_starts_of f fd) : DFn P w K mg base CX0 4 f fd ["house"] sp_starts_of := by
  refine dfn_ok F sc_starts_of (by walk_at "len") fun cdv A outer s H E hr => ?_
  have hu := hr.units
  refine ⟨_, (dss_cons (ds_set (i := 1) sc_starts_of.nd rfl (.inl rfl) (de_lst da_nil))
        (dss_cons (ds_for PassesOwn.never rfl (di_range (by rfl) m_range (da_cons (de_op op_addD (de_op op_mulD de_int (de_ix hu (de_ix hu (dv 0) de_int (fun _ _ => rfl)) de_int (fun _ _ => rfl))) de_int) da_nil)) (dg_name (pg_name (i := 2) sc_starts_of.nd rfl (Or.inr rfl))) (dss_one (ds_aug (i := 1) sc_starts_of.nd rfl (.inl rfl) (de_lc2 (own := [("heater", 3), ("window", 4)]) (vs1 := [4]) rfl sc_starts_of.nd (di_tup (de_tup (da_cons de_bl (da_cons de_bl da_nil)))) (blkOk_by (own := [("heater", 3), ("window", 4)]) (N := ["house", "found", "level", "heater", "window"]) (sc := defScope s_starts_of) (by decide +kernel)) (by decide) (fun _ _ _ _ _ => (dg_name (pg_name (i := 3) sc_starts_of.nd rfl (Or.inl rfl)))) (fun _ _ _ _ _ => dts_nil) (fun _ _ _ _ _ => (di_tup (de_tup (da_cons de_bl (da_cons de_bl da_nil))))) (fun _ _ _ _ _ => (dg_name (pg_name (i := 4) sc_starts_of.nd rfl (Or.inl rfl)))) (fun _ _ _ _ _ => dts_nil) (fun _ _ _ _ _ => (de_tup (da_cons (de_cal c_warmth_of (hr.mono (by decide)) (by rfl) pass0 (da_cons (dv 2) da_nil)) (da_cons (dv 3) (da_cons (dv 4) da_nil)))))))))
        (dss_one (ds_ret (dv 1))))), ?_⟩
  rintro ds M Q EX ⟨h, rfl, o, q⟩
  have ht := o.top
  walk_at "st"
  intro a ha
  walk_at "st"
  refine k_asR (by omega) (by omega) ?_
  have hN : ((2 * h.top + 1).toNat) ≤ 9 := by omega
  unfold starts at q
  generalize (2 * h.top + 1).toNat = N at *
  refine ⟨_, fun i Γ' M' => i ≤ N ∧ (∃ x, Γ' = [some (houseD h), some (.obj a), x, none, none]) ∧ Kp a M M' ∧ M' a = some (.lst ((starts0 i).map startDt)), fun _ _ _ _ => rfl, ⟨Nat.zero_le _, ⟨_, rfl⟩, Kp.rfl'.at, mset_same⟩, fun i d Γ' M' hi ⟨_, ⟨x, hx⟩, kp, hm⟩ => ?_, fun Γ' M' ⟨_, ⟨x, hx⟩, kp, hm⟩ => ?_⟩
  · subst hx
    rw [List.getElem?_map] at hi
    obtain ⟨i', hi', rfl⟩ := Option.map_eq_some_iff.mp hi
    obtain ⟨hlt, hii⟩ := List.getElem?_eq_some_iff.mp hi'
    rw [List.length_range] at hlt
    rw [List.getElem_range] at hii
    subst hii
    refine k_ask rfl ?_
    walk_at "st"
    intro b hb
    have hba : b ≠ a := fun e => by rw [e, hm] at hb; cases hb
    refine ⟨[.bl false, .bl true], fun k M2 => k ≤ 2 ∧ M2 = mset M' b (.lst (((row4 i).take (2 * k)).map startDt)), fun _ _ _ => rfl, ⟨by omega, rfl⟩, fun k d M2 hk ⟨_, e2⟩ => ?_, fun M2 ⟨_, e2⟩ => ?_⟩
    · subst e2
      have : k = 0 ∨ k = 1 := by
        have := (List.getElem?_eq_some_iff.mp hk).1
        simp at this
        omega
      rcases this with rfl | rfl
      all_goals
        cases hk
        refine k_ask rfl ⟨by simp, ?_⟩
        walk_at "st"
        refine ⟨[.bl false, .bl true], fun k1 M3 => k1 ≤ 2 ∧ M3 = mset M' b (.lst (((row4 i).take (2 * _ + k1)).map startDt)), fun _ _ _ => rfl, ⟨by omega, rfl⟩, fun k1 d1 M3 hk1 ⟨_, e3⟩ => ?_, fun M3 ⟨_, e3⟩ => ⟨by omega, e3⟩⟩
        subst e3
        have : k1 = 0 ∨ k1 = 1 := by
          have := (List.getElem?_eq_some_iff.mp hk1).1
          simp at this
          omega
        rcases this with rfl | rfl
        all_goals
          cases hk1
          refine k_ask rfl ⟨by simp, ?_⟩
          walk_at "st"
          refine ⟨i, rfl, ?_⟩
          walk_at "st"
          rw [mset_same]
          exact ⟨line3 (by simp [row4]), by omega, by rw [mset_mset]; rfl⟩
    · subst e2
      refine k_iaddl ((mset_ne (Ne.symm hba)).trans hm) mset_same ?_ ?_
      · refine sl_b ?_
        simp only [List.length_map, starts0_len, row4, List.length_take, List.length_cons, List.length_nil]
        omega
      · refine ⟨by omega, ⟨_, rfl⟩, (kp.new hb).at, ?_⟩
        rw [mset_same, starts0, List.map_append]
        rfl
  · subst hx
    rw [List.length_map, List.length_range] at hm
    walk_at "st"
    exact kp.fin hm (q a ha)

abbrev s_is_warmth : Stmt := topS 31
theorem sc_is_warmth : FnScope ["room", "value"] ["room", "value"] (defScope s_is_warmth) := ⟨rfl, rfl, rfl, by decide +kernel, rfl, by decide +kernel, by decide +kernel⟩
def sp_is_warmth : DSp := fun ds M Q _ => ∃ (h : House) (n : Nat), ds = [roomD h, frW n] ∧ h.Ok ∧ (n : Int) ≤ 2 * h.top ∧ Q (.bl true) M
theorem ok_is_warmth {f : Addr} {fd : FuncData} (c_is_within : Cal P w K mg base CX0 "is_within" 1 ["value", "low", "high"] sp_is_within) (c_divisor : Cal P w K mg base CX0 "divisor" 1 ["one", "other"] sp_divisor) (m_isinstance : mg "isinstance" = none) (m_len : mg "len" = none) (m_tuple : mg "tuple" = none) (F : Fun K "is_warmth" "is_warmth" s_is_warmth f fd) : DFn P w K mg base CX0 2 f fd ["room", "value"] sp_is_warmth := by
  refine dfn_ok F sc_is_warmth (by walk_at "len") fun cdv A outer s H E hr => ?_
  have hu := hr.units
  refine ⟨_, (dss_cons (ds_if (PW.pt (dw_or (dt_not (dt_val (de_callB call_isiD (by rfl) m_isinstance (by decide +kernel) (da_cons (dv 1) (da_cons (de_tyn (n := "tuple") (by rfl) m_tuple (by decide +kernel)) da_nil))))) (dw_or (dt_cmp (op_neDD hu) (de_callB call_lenD (by rfl) m_len PySem.boot_len (da_cons (dv 1) da_nil)) de_int (nomark _)) (dw_or1 (dt_not (dt_val (de_cal c_is_within (hr.mono (by decide)) (by rfl) pass0 (da_cons (de_ix hu (dv 1) de_int (fun _ _ => rfl)) (da_cons de_int (da_cons (de_op op_powD de_int de_int) da_nil)))))))))) (dss_one (ds_ret de_bl)) dss_nil)
        (dss_cons (ds_if (PW.pt (dw_or (dt_not (dt_val (de_cal c_is_within (hr.mono (by decide)) (by rfl) pass0 (da_cons (de_ix hu (dv 1) de_int (fun _ _ => rfl)) (da_cons de_int (da_cons (de_op op_powD de_int de_int) da_nil)))))) (dw_or1 (dt_cmp (op_neDD hu) (de_cal c_divisor (hr.mono (by decide)) (by rfl) pass0 (da_cons (de_ix hu (dv 1) de_int (fun _ _ => rfl)) (da_cons (de_ix hu (dv 1) de_int (fun _ _ => rfl)) da_nil))) de_int (nomark _))))) (dss_one (ds_ret de_bl)) dss_nil)
        (dss_one (ds_ret (de_cmp op_leD (de_ix hu (dv 1) de_int (fun _ _ => rfl)) (de_op op_mulD (de_ix hu (dv 0) de_int (fun _ _ => rfl)) (de_ix hu (dv 1) de_int (fun _ _ => rfl))) (nomark _)))))), ?_⟩
  rintro ds M Q EX ⟨h, n, rfl, o, hn, q⟩
  have q := fin.same q
  have ht := o.top
  have key : ∃ t b : Nat, frW n = .tup [.int (.ofNat t), .int (.ofNat b)] ∧ Nat.gcd t b = 1 ∧ t ≤ 8 ∧ (b = 1 ∨ b = 2) ∧ (t : Int) ≤ h.top * b := by
    unfold frW
    by_cases e : n % 2 = 0
    · rw [if_pos e]
      exact ⟨n / 2, 1, rfl, Nat.gcd_one_right _, by omega, .inl rfl, by omega⟩
    · rw [if_neg e]
      refine ⟨n, 2, rfl, ?_, by omega, .inr rfl, by omega⟩
      rw [gcd2, if_neg e]
  obtain ⟨t, b, e, hg, h8, hb, hl⟩ := key
  rw [e]
  have e12 : (10 : Int) ^ Int.toNat 12 = 1000000000000 := by decide
  walk_at "st"
  refine ⟨_, _, _, rfl, ?_⟩
  rw [e12, decide_eq_true (show (0 : Int) ≤ Int.ofNat t from Int.natCast_nonneg _), decide_eq_true (show Int.ofNat t ≤ 1000000000000 from (by omega : (t : Int) ≤ 1000000000000))]
  walk_at "st"
  refine ⟨_, _, _, rfl, ?_⟩
  rw [e12, decide_eq_true (show (1 : Int) ≤ Int.ofNat b from (by omega : (1 : Int) ≤ (b : Int))), decide_eq_true (show Int.ofNat b ≤ 1000000000000 from (by omega : (b : Int) ≤ 1000000000000))]
  walk_at "st"
  refine ⟨t, b, rfl, ?_⟩
  rw [hg]
  walk_at "st"
  rw [decide_eq_true (show (Int.ofNat t) ≤ h.top * Int.ofNat b from hl)]
  exact q

abbrev s_is_start_value : Stmt := topS 32
theorem sc_is_start_value : FnScope ["house", "value"] ["house", "value"] (defScope s_is_start_value) := ⟨rfl, rfl, rfl, by decide +kernel, rfl, by decide +kernel, by decide +kernel⟩
def sp_is_start_value : DSp := fun ds M Q _ => ∃ (h : House) (s : St0), ds = [houseD h, startDt s] ∧ h.Ok ∧ (s.n : Int) ≤ 2 * h.top ∧ Q (.bl true) M
theorem ok_is_start_value {f : Addr} {fd : FuncData} (c_is_warmth : Cal P w K mg base CX0 "is_warmth" 2 ["room", "value"] sp_is_warmth) (m_isinstance : mg "isinstance" = none) (m_len : mg "len" = none) (m_bool : mg "bool" = none) (m_tuple : mg "tuple" = none) (F : Fun K "is_start_value" "is_start_value" s_is_start_value f fd) : DFn P w K mg base CX0 3 f fd ["house", "value"] sp_is_start_value := by
  refine dfn_ok F sc_is_start_value (by walk_at "len") fun cdv A outer s H E hr => ?_
  have hu := hr.units
  refine ⟨_, (dss_cons (ds_if (PW.pt (dw_or (dt_not (dt_val (de_callB call_isiD (by rfl) m_isinstance (by decide +kernel) (da_cons (dv 1) (da_cons (de_tyn (n := "tuple") (by rfl) m_tuple (by decide +kernel)) da_nil))))) (dw_or (dt_cmp (op_neDD hu) (de_callB call_lenD (by rfl) m_len PySem.boot_len (da_cons (dv 1) da_nil)) de_int (nomark _)) (dw_or1 (dt_not (dt_val (de_cal c_is_warmth (hr.mono (by decide)) (by rfl) pass0 (da_cons (de_ix hu (dv 0) de_int (fun _ _ => rfl)) (da_cons (de_ix hu (dv 1) de_int (fun _ _ => rfl)) da_nil))))))))) (dss_one (ds_ret de_bl)) dss_nil)
        (dss_one (ds_ret (de_and (de_callB call_isiD (by rfl) m_isinstance (by decide +kernel) (da_cons (de_ix hu (dv 1) de_int (fun _ _ => rfl)) (da_cons (de_tyn (n := "bool") (by rfl) m_bool (by decide +kernel)) da_nil))) (de_one (de_callB call_isiD (by rfl) m_isinstance (by decide +kernel) (da_cons (de_ix hu (dv 1) de_int (fun _ _ => rfl)) (da_cons (de_tyn (n := "bool") (by rfl) m_bool (by decide +kernel)) da_nil)))))))), ?_⟩
  rintro ds M Q EX ⟨h, s, rfl, o, hn, q⟩
  have q := fin.same q
  unfold startDt
  walk_at "st"
  refine ⟨h, s.n, rfl, o, hn, ?_⟩
  walk_at "st"
  exact q
end
end L3

/-! Runs, what is reached, rounds: plain. -/
namespace L3
open PySem PySem.Spec PyProof.Rows L2

def walkS (h : House) : Stand → List Wth → Stand
  | s, [] => s
  | s, w :: r => walkS h (tickS h s w) r
theorem walkS_app (h : House) : ∀ (a b : List Wth) (s : Stand), walkS h s (a ++ b) = walkS h (walkS h s a) b
  | [], _, _ => rfl
  | w :: a, b, s => walkS_app h a b (tickS h s w)
structure RunTo (h : House) (a : Stand) (r : List Wth) (b : Stand) : Prop where
  ws : ∀ w ∈ r, w ∈ h.ws
  to : walkS h a r = b
theorem RunTo.nil {h : House} {a : Stand} : RunTo h a [] a := ⟨fun _ z => (nomatch z), rfl⟩
theorem RunTo.one {h : House} {a : Stand} {w : Wth} (m : w ∈ h.ws) : RunTo h a [w] (tickS h a w) := ⟨fun x z => by rw [List.mem_singleton.mp z]; exact m, rfl⟩
theorem RunTo.app {h : House} {a b c : Stand} {r q : List Wth} (x : RunTo h a r b) (y : RunTo h b q c) : RunTo h a (r ++ q) c :=
  ⟨fun w z => (List.mem_append.mp z).elim (x.ws w) (y.ws w), by rw [walkS_app, x.to, y.to]⟩
theorem RunTo.snoc {h : House} {a b : Stand} {r : List Wth} {w : Wth} (x : RunTo h a r b) (m : w ∈ h.ws) : RunTo h a (r ++ [w]) (tickS h b w) := x.app (.one m)
theorem RunTo.ok {h : House} (o : h.Ok) : ∀ {r : List Wth} {a b : Stand}, RunTo h a r b → a.Ok h → b.Ok h
  | [], a, b, x, k => by have : a = b := x.to; rw [← this]; exact k
  | w :: r, a, b, x, k => RunTo.ok o (r := r) ⟨fun u z => x.ws u (List.mem_cons_of_mem _ z), x.to⟩ (tickS_ok o k w)
def RT (h : House) (a b : Stand) : Prop := ∃ r, RunTo h a r b
def RP (h : House) (a b : Stand) : Prop := ∃ r, r ≠ [] ∧ RunTo h a r b
theorem RT.refl {h : House} {a : Stand} : RT h a a := ⟨[], .nil⟩
theorem RT.tr {h : House} {a b c : Stand} (x : RT h a b) (y : RT h b c) : RT h a c := let ⟨_, x⟩ := x; let ⟨_, y⟩ := y; ⟨_, x.app y⟩
theorem RT.one {h : House} {a : Stand} {w : Wth} (m : w ∈ h.ws) : RT h a (tickS h a w) := ⟨_, .one m⟩
theorem RP.rt {h : House} {a b : Stand} (x : RP h a b) : RT h a b := let ⟨r, _, x⟩ := x; ⟨r, x⟩
theorem RT.or {h : House} {a b : Stand} (x : RT h a b) : a = b ∨ RP h a b := by
  obtain ⟨r, x⟩ := x
  cases r with
  | nil => exact .inl x.to
  | cons w r => exact .inr ⟨w :: r, List.cons_ne_nil _ _, x⟩
/-- what holds next to a, and next to what it holds for -/
theorem RP.ind {h : House} {a b : Stand} {p : Stand → Prop} (x : RP h a b) (h0 : ∀ w ∈ h.ws, p (tickS h a w)) (h1 : ∀ s, p s → ∀ w ∈ h.ws, p (tickS h s w)) : p b := by
  obtain ⟨r, hr, x⟩ := x
  have go : ∀ (r : List Wth) (s : Stand), p s → RunTo h s r b → p b := by
    intro r
    induction r with
    | nil => intro s ps x; rw [← show s = b from x.to]; exact ps
    | cons w r ih => intro s ps x; exact ih _ (h1 s ps w (x.ws w List.mem_cons_self)) ⟨fun u z => x.ws u (List.mem_cons_of_mem _ z), x.to⟩
  cases r with
  | nil => exact absurd rfl hr
  | cons w r => exact go r _ (h0 w (x.ws w List.mem_cons_self)) ⟨fun u z => x.ws u (List.mem_cons_of_mem _ z), x.to⟩
theorem RT.ind {h : House} {a b : Stand} {p : Stand → Prop} (x : RT h a b) (h0 : p a) (h1 : ∀ s, p s → ∀ w ∈ h.ws, p (tickS h s w)) : p b := by
  rcases x.or with rfl | x
  · exact h0
  · exact x.ind (h1 a h0) h1
def Reach (h : House) (s : Stand) : Prop := ∃ t ∈ starts h, RT h (begin0 t) s
theorem Reach.next {h : House} {s : Stand} {w : Wth} (x : Reach h s) (m : w ∈ h.ws) : Reach h (tickS h s w) := let ⟨t, ht, r⟩ := x; ⟨t, ht, r.tr (.one m)⟩
theorem Reach.to {h : House} {s t : Stand} (x : Reach h s) (r : RT h s t) : Reach h t := let ⟨u, hu, q⟩ := x; ⟨u, hu, q.tr r⟩
theorem Reach.start {h : House} {t : St0} (m : t ∈ starts h) : Reach h (begin0 t) := ⟨t, m, .refl⟩
theorem Reach.ok {h : House} (o : h.Ok) {s : Stand} (x : Reach h s) : s.Ok h := let ⟨_, m, _, r⟩ := x; r.ok o (begin0_ok o m)
theorem Reach.ind {h : House} {s : Stand} {p : Stand → Prop} (x : Reach h s) (h0 : ∀ t ∈ starts h, p (begin0 t)) (h1 : ∀ s, p s → ∀ w ∈ h.ws, p (tickS h s w)) : p s := let ⟨t, m, r⟩ := x; r.ind (h0 t m) h1
theorem ws_len {h : House} (o : h.Ok) : h.ws.length ≤ 2 := by rcases o.ws with e | e | e <;> rw [e] <;> decide
theorem ws_pos {h : House} (o : h.Ok) : h.ws ≠ [] := by rcases o.ws with e | e | e <;> rw [e] <;> exact List.cons_ne_nil _ _
def nexts (h : House) (s : Stand) : List Stand := h.ws.map (tickS h s)
theorem nexts_len {h : House} (o : h.Ok) (s : Stand) : (nexts h s).length ≤ 2 := by unfold nexts; rw [List.length_map]; exact ws_len o

/-! ### how many stands -/
theorem nodup_len {α : Type} [DecidableEq α] : ∀ {l u : List α}, l.Nodup → (∀ x ∈ l, x ∈ u) → l.length ≤ u.length
  | [], u, _, _ => Nat.zero_le _
  | x :: l, u, nd, hs => by
    obtain ⟨h1, h2⟩ := List.nodup_cons.mp nd
    have hx := hs x List.mem_cons_self
    have := nodup_len h2 (u := u.erase x) fun k hk => (List.mem_erase_of_ne (fun e => h1 (by rw [← show k = x from e]; exact hk) : k ≠ x)).mpr (hs k (List.mem_cons_of_mem _ hk))
    rw [List.length_erase_of_mem hx] at this
    have pos := List.length_pos_of_mem hx
    rw [List.length_cons]
    omega
def allS : List Stand := (List.range 9).flatMap fun l => [false, true].flatMap fun a => [false, true].flatMap fun b => (List.range 2).flatMap fun p => (List.range 3).flatMap fun x => (List.range 3).map fun y => ⟨.ofNat l, a, b, .ofNat p, x, y⟩
theorem allS_len : allS.length = 648 := by decide +kernel
theorem mem_allS {h : House} (o : h.Ok) {s : Stand} (k : s.Ok h) : s ∈ allS := by
  have t := o.top
  have p := period_pos o
  have b1 := o.a.len
  have b2 := o.b.len
  obtain ⟨lv, ht, wd, ph, p0, p1⟩ := s
  obtain ⟨k1, k2, k3, k4⟩ := k
  simp only at k1 k2 k3 k4
  have l0 : lv = Int.ofNat lv.toNat := (Int.toNat_of_nonneg k1.1).symm
  have l1 : ph = Int.ofNat ph.toNat := (Int.toNat_of_nonneg k2.1).symm
  unfold allS
  refine List.mem_flatMap.mpr ⟨lv.toNat, List.mem_range.mpr (by omega), List.mem_flatMap.mpr ⟨ht, by cases ht <;> simp, List.mem_flatMap.mpr ⟨wd, by cases wd <;> simp, List.mem_flatMap.mpr ⟨ph.toNat, List.mem_range.mpr (by omega),
    List.mem_flatMap.mpr ⟨p0, List.mem_range.mpr (by omega), List.mem_map.mpr ⟨p1, List.mem_range.mpr (by omega), ?_⟩⟩⟩⟩⟩⟩
  rw [← l0, ← l1]
theorem stands_len {h : House} (o : h.Ok) {l : List Stand} (nd : l.Nodup) (k : ∀ s ∈ l, s.Ok h) : l.length ≤ 648 := by
  rw [← allS_len]
  exact nodup_len nd fun s m => mem_allS o (k s m)

/-! ### dicts -/
theorem lk_mem {kvs : List (Stand × D)} {s : Stand} {d : D} (h : lk kvs s = some d) : (s, d) ∈ kvs := by
  unfold lk at h
  obtain ⟨p, hp, rfl⟩ := Option.map_eq_some_iff.mp h
  have h1 := List.mem_of_find?_eq_some hp
  have h2 := List.find?_some hp
  have : p.1 = s := by simpa using h2
  rw [← this]
  exact h1
theorem lk_isSome {kvs : List (Stand × D)} {s : Stand} : (lk kvs s).isSome = decide (s ∈ kvs.map (·.1)) := by
  by_cases m : s ∈ kvs.map (·.1)
  · rw [decide_eq_true m]
    obtain ⟨p, hp, e⟩ := List.mem_map.mp m
    unfold lk
    rw [Option.isSome_map]
    cases q : kvs.find? fun x => decide (x.1 = s) with
    | some x => rfl
    | none => exact absurd (decide_eq_true e) (by simpa using List.find?_eq_none.mp q p hp)
  · rw [decide_eq_false m]
    cases q : lk kvs s with
    | none => rfl
    | some d => exact absurd (List.mem_map.mpr ⟨_, lk_mem q, rfl⟩) m
theorem lk_none {kvs : List (Stand × D)} {s : Stand} (h : s ∉ kvs.map (·.1)) : lk kvs s = none := by
  cases q : lk kvs s with
  | none => rfl
  | some d => exact absurd (List.mem_map.mpr ⟨_, lk_mem q, rfl⟩) h
theorem lk_key {kvs : List (Stand × D)} {s : Stand} (h : s ∈ kvs.map (·.1)) : ∃ d, lk kvs s = some d ∧ (s, d) ∈ kvs := by
  have e := lk_isSome (kvs := kvs) (s := s)
  rw [decide_eq_true h] at e
  obtain ⟨d, q⟩ := Option.isSome_iff_exists.mp e
  exact ⟨d, q, lk_mem q⟩
def keysOf (kvs : List (Stand × D)) : List Stand := kvs.map (·.1)
def runD (r : List Wth) : D := .tup (r.map fun w => D.str w.s)

/-! ### graphs in the small heap -/
structure Graph (h : House) (M : Mm) (kvs : List (Stand × D)) : Prop where
  nd : (keysOf kvs).Nodup
  mem : ∀ s, s ∈ keysOf kvs ↔ Reach h s
  row : ∀ p ∈ kvs, ∃ r, p.2 = .obj r ∧ M r = some (.lst (h.ws.map (rowD h p.1)))
theorem Graph.le {h : House} {M M' : Mm} {kvs : List (Stand × D)} (g : Graph h M kvs) (l : Le M M') : Graph h M' kvs := ⟨g.nd, g.mem, fun p m => let ⟨r, e, q⟩ := g.row p m; ⟨r, e, l _ _ q⟩⟩
theorem Graph.at {h : House} {M : Mm} {kvs : List (Stand × D)} (g : Graph h M kvs) {s : Stand} (k : Reach h s) : ∃ r, lk kvs s = some (.obj r) ∧ M r = some (.lst (h.ws.map (rowD h s))) := by
  obtain ⟨d, e, m⟩ := lk_key ((g.mem s).mpr k)
  obtain ⟨r, e1, q⟩ := g.row _ m
  have e1 : d = .obj r := e1
  subst e1
  exact ⟨r, e, q⟩
theorem Graph.len {h : House} (o : h.Ok) {M : Mm} {kvs : List (Stand × D)} (g : Graph h M kvs) : kvs.length ≤ 648 := by
  have := stands_len o g.nd fun s m => ((g.mem s).mp m).ok o
  unfold keysOf at this
  rwa [List.length_map] at this
/-- what is reached by one tick and more, with a run each -/
structure Reached (h : House) (s0 : Stand) (kvs : List (Stand × D)) : Prop where
  all : ∀ s, RP h s0 s → s ∈ keysOf kvs
  run : ∀ p ∈ kvs, ∃ r : List Wth, p.2 = runD r ∧ r ≠ [] ∧ RunTo h s0 r p.1 ∧ r.length ≤ 648
theorem Reached.iff {h : House} {s0 s : Stand} {kvs : List (Stand × D)} (R : Reached h s0 kvs) : s ∈ keysOf kvs ↔ RP h s0 s := by
  refine ⟨fun m => ?_, R.all s⟩
  obtain ⟨p, hp, rfl⟩ := List.mem_map.mp m
  obtain ⟨r, _, h1, h2, _⟩ := R.run p hp
  exact ⟨r, h1, h2⟩
theorem Le.at {M M' : Mm} {a : Addr} {o : MO} (l : Le M M') (ha : M a = none) : Le M (mset M' a o) := fun b u e => by
  rw [mset_ne (mne e ha)]; exact l b u e
theorem Le.free' {M M' : Mm} (e : Le M M') {p : Addr} (h : M' p = none) : M p = none := e.free h
end L3

/-! A house is a house. -/
namespace L3
open PySem PySem.Spec PyProof.Rows L2
local macro_rules | `(tactic| walk_at "mem") => `(tactic| first | assumption | exact mset_same | (refine (mset_ne ?_).trans ?_ <;> first | assumption | exact Ne.symm (by assumption) | exact mset_same | (refine (mset_ne ?_).trans ?_ <;> first | assumption | exact Ne.symm (by assumption) | exact mset_same)))
local macro_rules | `(tactic| walk_at "line") => `(tactic| first | decide | (simp only [List.length_cons, List.length_nil, List.length_map, List.length_append]; first | decide | omega) | (refine sl_b ?_; simp only [List.length_cons, List.length_nil, List.length_map, List.length_append]; first | decide | omega))
local macro_rules | `(tactic| walk_at "s1") => `(tactic| first
  | ((with_reducible refine' k_var ?g0 ?_); (case g0 => exact rfl))
  | ((with_reducible refine' k_seqN ?g0 ?_); (case g0 => (try simp only [startD, g_cons, g_nil, List.map_cons, List.map_nil, List.length_cons, List.length_nil, Nat.reduceAdd, Nat.reduceSub, List.replicate_succ, List.replicate_zero, List.cons_append, List.nil_append, List.set_cons_zero, List.set_cons_succ, List.zip_cons_cons, List.zip_nil_right, List.zip_nil_left]); try exact rfl))
  | ((with_reducible refine' k_retN ?g0 ?_); (case g0 => (try simp only [startD, g_cons, g_nil, List.map_cons, List.map_nil, List.length_cons, List.length_nil, Nat.reduceAdd, Nat.reduceSub, List.replicate_succ, List.replicate_zero, List.cons_append, List.nil_append, List.set_cons_zero, List.set_cons_succ, List.zip_cons_cons, List.zip_nil_right, List.zip_nil_left]); try exact rfl))
  | (with_reducible refine k_nedev ?_)
  | (with_reducible refine k_ifS ?_)
  | (with_reducible refine k_next ?_)
  | (with_reducible refine k_drop ?_)
  | (with_reducible refine k_set ?_)
  | (with_reducible refine k_asg ?_)
  | (with_reducible refine k_sub ?_)
  | (with_reducible refine k_par ?_)
  | (with_reducible refine k_asP ?_)
  | (with_reducible refine k_par3 ?_)
  | (with_reducible refine k_asP3 ?_)
  | (with_reducible refine k_aug ?_)
  | (with_reducible refine k_for ?_)
  | (with_reducible refine k_B ?_)
  | (with_reducible refine k_asB ?_)
  | (with_reducible refine k_and ?_)
  | (with_reducible refine k_or ?_)
  | (with_reducible refine k_not ?_)
  | (with_reducible refine k_andV ?_)
  | (with_reducible refine k_orV ?_)
  | (with_reducible refine k_notV ?_)
  | (with_reducible refine k_chain ?_)
  | (with_reducible refine k_yes ?_)
  | (with_reducible refine k_if ?_)
  | (with_reducible refine k_c ?_)
  | (with_reducible refine k_op ?_)
  | (with_reducible refine k_nil ?_)
  | (with_reducible refine k_cons ?_)
  | (with_reducible refine k_tup ?_)
  | (with_reducible refine k_lst ?_)
  | (with_reducible refine k_call ?_)
  | (with_reducible refine k_fn ?_)
  | (with_reducible refine k_sl ?_)
  | (with_reducible refine k_app ?_)
  | (with_reducible refine k_pop ?_)
  | (with_reducible refine k_it ?_)
  | (with_reducible refine k_ik ?_)
  | (with_reducible refine k_il ?_)
  | (with_reducible refine k_ir ?_)
  | (with_reducible refine k_lc ?_)
  | (with_reducible refine k_addi ?_)
  | (with_reducible refine k_iaddi ?_)
  | (with_reducible refine k_eqi ?_)
  | (with_reducible refine k_nei ?_)
  | (with_reducible refine k_eqs ?_)
  | (with_reducible refine k_nes ?_)
  | (with_reducible refine k_eqb ?_)
  | (with_reducible refine k_neb ?_)
  | (with_reducible refine k_eqst ?_)
  | (with_reducible refine k_isN ?_)
  | (with_reducible refine k_notN ?_)
  | (with_reducible refine k_rsls ?_)
  | (with_reducible refine k_rsl ?_)
  | (with_reducible refine k_lent ?_)
  | (with_reducible refine k_i2 ?_)
  | (with_reducible refine k_toi ?_)
  | (with_reducible refine k_tob ?_)
  | (with_reducible refine k_itw ?_)
  | (with_reducible refine k_itt ?_)
  | (with_reducible refine k_lc2 ?_)
  | (with_reducible refine k_get ?_)
  | (with_reducible refine k_dc ?_)
  | ((with_reducible refine' k_ask ?g0 ?_); (case g0 => exact rfl))
  | ((with_reducible refine' k_ix ?g0 ?_); (case g0 => exact rfl))
  | ((with_reducible refine' k_lix ?g0 ?g1 ?_); (case g0 => walk_at "mem"); (case g1 => exact rfl))
  | ((with_reducible refine' k_int ?g0 ?_); (case g0 => first | exact trivial | exact cm2 | (show (0 : Int) < _; omega) | (show CMul _ _; exact .inl ⟨by omega, by omega⟩) | (show CMul _ _; exact .inr ⟨by omega, by omega⟩) | (show CDiv _ _; exact ⟨by omega, by omega⟩) | exact ⟨by decide, by decide⟩))
  | ((with_reducible refine' k_addt ?g0 ?_); (case g0 => walk_at "line"))
  | ((with_reducible refine' sl_s ?g0 ?_); (case g0 => walk_at "line"))
  | ((with_reducible refine' k_inT ?g0 ?g1 ?_); (case g0 => exact rfl); (case g1 => exact rfl))
  | ((with_reducible refine' k_ninT ?g0 ?g1 ?_); (case g0 => exact rfl); (case g1 => exact rfl))
  | ((with_reducible refine' k_inL ?g0 ?g1 ?g2 ?_); (case g0 => walk_at "mem"); (case g1 => exact rfl); (case g2 => exact rfl))
  | ((with_reducible refine' k_ninL ?g0 ?g1 ?g2 ?_); (case g0 => walk_at "mem"); (case g1 => exact rfl); (case g2 => exact rfl))
  | ((with_reducible refine' k_lenl ?g0 ?_); (case g0 => walk_at "mem"))
  | ((with_reducible refine' k_ninD ?g0 ?_); (case g0 => walk_at "mem"))
  | ((with_reducible refine' k_inD ?g0 ?_); (case g0 => walk_at "mem"))
  | ((with_reducible refine' k_rik ?g0 ?_); (case g0 => walk_at "mem"))
  | ((with_reducible refine' k_ril ?g0 ?_); (case g0 => walk_at "mem"))
  | ((with_reducible refine' k_isi ?g0 ?g1 ?_); (case g0 => exact rfl); (case g1 => exact rfl))
  | ((with_reducible refine' k_isl ?g0 ?_); (case g0 => walk_at "mem"))
  | ((with_reducible refine' k_rget ?g0 ?_); (case g0 => walk_at "mem"))
  | ((with_reducible refine' k_dix ?g0 ?g1 ?_); (case g0 => walk_at "mem"); (case g1 => assumption))
  | ((with_reducible refine' k_iaddl ?g0 ?g1 ?g2 ?_); (case g0 => walk_at "mem"); (case g1 => walk_at "mem"); (case g2 => walk_at "line"))
  | ((with_reducible refine' k_addl ?g0 ?g1 ?g2 ?_); (case g0 => walk_at "mem"); (case g1 => walk_at "mem"); (case g2 => walk_at "line"))
  | ((with_reducible refine' k_rall ?g0 ?g1 ?_); (case g0 => walk_at "mem"); (case g1 => exact rfl))
  | ((with_reducible refine' k_tot ?g0 ?_); (case g0 => walk_at "mem"))
  | ((with_reducible refine' k_t ?g0 ?_); (case g0 => exact rfl))
  | ((with_reducible refine' k_f ?g0 ?_); (case g0 => exact rfl)))
local macro_rules | `(tactic| walk_at "st") => `(tactic| (repeat (walk_at "s1")); try dsimp only)
local macro_rules | `(tactic| walk_at "c") => `(tactic| try simp only [inV_two, d_no, d_on, d_off, d_open, d_shut, d_no', d_on', d_off', d_open', d_shut', w_cold, w_cold', v_heat, reduceCtorEq, decide_true, decide_false, Bool.or_false, Bool.false_or, Bool.or_true, Bool.true_or, Bool.not_true, Bool.not_false, Bool.false_eq_true, Bool.true_eq_false, if_true, if_false, reduceIte])
local macro_rules | `(tactic| walk_at "len") => `(tactic| (intro ds M Q EX h; repeat (obtain ⟨x, h⟩ := h; try (subst x; exact rfl))))
def asTup (x : D) (k : List D → Prop) : Prop := match x with
  | .tup ds => k ds
  | _ => False
theorem k_asTup {ds : List D} {k : List D → Prop} (h : k ds) : asTup (.tup ds) k := h
theorem k_sortS {ta : DTE} {Γ : Ge} {M : Mm} {Q : QD} (h : ta Γ M fun x M1 => asTup x fun ds => ask (toSs ds) fun ws => ws.Nodup ∧ ws.length < 64 ∧ ∀ (ys : List Str) (p : Addr), ys.Perm ws → sortedS ys = true → M1 p = none → Q (.obj p) (mset M1 p (.lst (ys.map D.str)))) : dSortS ta Γ M Q := h
theorem k_tolst {xs : List D} {M : Mm} {Q : QD} (h : ∀ p, M p = none → Q (.obj p) (mset M p (.lst xs))) : rToLst [.tup xs] M Q := h
theorem perm_two {ys : List Str} {a b : Str} (h : ys.Perm [a, b]) : ys = [a, b] ∨ ys = [b, a] := by
  have l : ys.length = 2 := h.length_eq
  match ys, l with
  | [x, y], _ =>
    have hx := h.mem_iff (a := x)
    have hy := h.mem_iff (a := y)
    have ha := h.mem_iff (a := a)
    have hb := h.mem_iff (a := b)
    simp only [List.mem_cons, List.not_mem_nil, or_false, true_or, or_true, true_iff, iff_true] at hx hy ha hb
    by_cases e : x = a
    · subst e
      by_cases e2 : y = b
      · subst e2; exact .inl rfl
      · have : y = x := by rcases hy with z | z; exact z; exact absurd z e2
        subst this
        rcases hb with z | z <;> exact absurd z.symm e2
    · have xb : x = b := by rcases hx with z | z; exact absurd z e; exact z
      subst xb
      rcases ha with z | z
      · exact absurd z.symm e
      · subst z; exact .inr rfl
theorem ws_sorted {ws : List Wth} (o : ws = [.cold] ∨ ws = [.mild] ∨ ws = [.cold, .mild]) {ys : List Str} (p : ys.Perm (ws.map Wth.s)) (hs : sortedS ys = true) : ys = ws.map Wth.s := by
  rcases o with rfl | rfl | rfl
  · exact List.perm_singleton.mp p
  · exact List.perm_singleton.mp p
  · rcases perm_two p with e | e
    · exact e
    · rw [e] at hs
      exact absurd hs (by decide +kernel)
theorem toSs_ws (ws : List Wth) : toSs (ws.map fun w => D.str w.s) = some (ws.map Wth.s) := by
  induction ws with
  | nil => rfl
  | cons x l ih => rw [List.map_cons, toSs, ih]; rfl
theorem k_neWs {M : Mm} {Q : QD} {a b : Addr} {ws : List Wth} (o : ws = [.cold] ∨ ws = [.mild] ∨ ws = [.cold, .mild]) (h1 : M a = some (.lst (ws.map fun w => .str w.s))) (h2 : M b = some (.lst ((ws.map Wth.s).map D.str))) (q : Q (.bl false) M) : rEqD true (.obj a) (.obj b) M Q := by
  have e : rEqD true (.obj a) (.obj b) M Q = ask (pyD M (.obj a)) fun d => ask (pyD M (.obj b)) fun e => SeqAt.shaped d = true ∧ SeqAt.shaped e = true ∧ Q (.bl (!PyData.eqv d e)) M := rfl
  rw [e]
  rcases o with rfl | rfl | rfl
  · simp only [pyD, h1, h2, List.map_cons, List.map_nil, pyTs, pyT, Option.map_some, ask_some]
    refine ⟨by decide +kernel, by decide +kernel, ?_⟩
    rw [show PyData.eqv (.list [.str (Wth.s .cold)]) (.list [.str (Wth.s .cold)]) = true by decide +kernel]
    exact q
  · simp only [pyD, h1, h2, List.map_cons, List.map_nil, pyTs, pyT, Option.map_some, ask_some]
    refine ⟨by decide +kernel, by decide +kernel, ?_⟩
    rw [show PyData.eqv (.list [.str (Wth.s .mild)]) (.list [.str (Wth.s .mild)]) = true by decide +kernel]
    exact q
  · simp only [pyD, h1, h2, List.map_cons, List.map_nil, pyTs, pyT, Option.map_some, ask_some]
    refine ⟨by decide +kernel, by decide +kernel, ?_⟩
    rw [show PyData.eqv (.list [.str (Wth.s .cold), .str (Wth.s .mild)]) (.list [.str (Wth.s .cold), .str (Wth.s .mild)]) = true by decide +kernel]
    exact q
section
variable {P : Program} {w : World} {K : PySem.W.Frag} {mg : Str → Option Value} {base : Heap}
abbrev s_is_house_value : Stmt := topS 28
theorem sc_is_house_value : FnScope ["value", "room", "weathers", "people", "one"] ["value"] (defScope s_is_house_value) := ⟨rfl, rfl, rfl, by decide +kernel, rfl, by decide +kernel, by decide +kernel⟩
def sp_is_house_value : DSp := fun ds M Q _ => ∃ h, ds = [houseD h] ∧ h.Ok ∧ Q (.bl true) M
theorem ok_is_house_value {f : Addr} {fd : FuncData} (c_is_room_value : Cal P w K mg base CX0 "is_room_value" 2 ["value"] sp_is_room_value) (c_is_person_value : Cal P w K mg base CX0 "is_person_value" 5 ["value", "top"] sp_is_person_value) (c_is_word : Cal P w K mg base CX0 "is_word" 1 ["value", "words"] sp_is_word) (m_isinstance : mg "isinstance" = none) (m_all : mg "all" = none) (m_len : mg "len" = none) (m_list : mg "list" = none) (m_sorted : mg "sorted" = none) (m_tuple : mg "tuple" = none) (m_set : mg "set" = none) (k_WEATHERS : Con mg K "WEATHERS" (.tup [.str "cold", .str "mild"])) (F : Fun K "is_house_value" "is_house_value" s_is_house_value f fd) : DFn P w K mg base CX0 6 f fd ["value"] sp_is_house_value := by
  refine dfn_ok F sc_is_house_value (by walk_at "len") fun cdv A outer s H E hr => ?_
  have hu := hr.units
  refine ⟨_, (dss_cons (ds_if (PW.pt (dw_or (dt_not (dt_val (de_callB call_isiD (by rfl) m_isinstance (by decide +kernel) (da_cons (dv 0) (da_cons (de_tyn (n := "tuple") (by rfl) m_tuple (by decide +kernel)) da_nil))))) (dw_or (dt_cmp (op_neDD hu) (de_callB call_lenD (by rfl) m_len PySem.boot_len (da_cons (dv 0) da_nil)) de_int (nomark _)) (dw_or1 (dt_not (dt_val (de_cal c_is_room_value (hr.mono (by decide)) (by rfl) pass0 (da_cons (de_ix hu (dv 0) de_int (fun _ _ => rfl)) da_nil)))))))) (dss_one (ds_ret de_bl)) dss_nil)
        (dss_cons (ds_asg (dv 0) (dg_tup (is := [1, 2, 3]) (pg_tup rfl (pgs_cons (pg_name (i := 1) sc_is_house_value.nd rfl (Or.inr rfl)) (pgs_cons (pg_name (i := 2) sc_is_house_value.nd rfl (Or.inl rfl)) (pgs_cons (pg_name (i := 3) sc_is_house_value.nd rfl (Or.inl rfl)) pgs_nil)))) rfl))
        (dss_cons (ds_if (PW.pt (dw_or (dt_not (dt_val (de_callB call_isiD (by rfl) m_isinstance (by decide +kernel) (da_cons (dv 2) (da_cons (de_tyn (n := "tuple") (by rfl) m_tuple (by decide +kernel)) da_nil))))) (dw_or1 (dt_not (dt_ch op_leD op_leD de_int (de_callB call_lenD (by rfl) m_len PySem.boot_len (da_cons (dv 2) da_nil)) de_int))))) (dss_one (ds_ret de_bl)) dss_nil)
        (dss_cons (ds_if (PW.pt (dw_or (dt_not (dt_val (de_callB (call_allD rfl) (by rfl) m_all (by decide +kernel) (da_cons (de_lc (own := [("one", 4)]) rfl sc_is_house_value.nd (di_tup (dv 2)) (blkOk_by (own := [("one", 4)]) (N := ["value", "room", "weathers", "people", "one"]) (sc := defScope s_is_house_value) (by decide +kernel)) (fun _ _ _ _ _ => (dg_name (pg_name (i := 4) sc_is_house_value.nd rfl (Or.inl rfl)))) (fun _ _ _ _ _ => dts_nil) (fun _ _ _ _ _ => (de_cal c_is_word (hr.mono (by decide)) (by rfl) pass0 (da_cons (dv 4) (da_cons (de_con k_WEATHERS (by rfl)) da_nil))))) da_nil)))) (dw_or1 (dt_cmp (op_neDD hu) (de_callTy call_lstD (by rfl) m_list (by decide +kernel) (da_cons (dv 2) da_nil)) (de_sortset (by rfl) (by rfl) m_sorted (by rfl) m_set (dv 2)) (nomark _))))) (dss_one (ds_ret de_bl)) dss_nil)
        (dss_one (ds_ret (de_and (de_callB call_isiD (by rfl) m_isinstance (by decide +kernel) (da_cons (dv 3) (da_cons (de_tyn (n := "tuple") (by rfl) m_tuple (by decide +kernel)) da_nil))) (de_and (de_cmp (op_eqDD hu) (de_callB call_lenD (by rfl) m_len PySem.boot_len (da_cons (dv 3) da_nil)) de_int (nomark _)) (de_one (de_callB (call_allD rfl) (by rfl) m_all (by decide +kernel) (da_cons (de_lc (own := [("one", 4)]) rfl sc_is_house_value.nd (di_tup (dv 3)) (blkOk_by (own := [("one", 4)]) (N := ["value", "room", "weathers", "people", "one"]) (sc := defScope s_is_house_value) (by decide +kernel)) (fun _ _ _ _ _ => (dg_name (pg_name (i := 4) sc_is_house_value.nd rfl (Or.inl rfl)))) (fun _ _ _ _ _ => dts_nil) (fun _ _ _ _ _ => (de_cal c_is_person_value (hr.mono (by decide)) (by rfl) pass0 (da_cons (dv 4) (da_cons (de_ix hu (dv 1) de_int (fun _ _ => rfl)) da_nil))))) da_nil))))))))))), ?_⟩
  rintro ds M Q EX ⟨h, rfl, o, q⟩
  have q := fin.same q
  have hw : 1 ≤ h.ws.length ∧ h.ws.length ≤ 2 := by rcases o.ws with e | e | e <;> rw [e] <;> decide
  unfold wsD at *
  walk_at "st"
  refine ⟨h, rfl, o, ?_⟩
  unfold houseD wsD
  walk_at "st"
  rw [List.length_map]
  refine k_t (decide_eq_true (by omega)) ?_
  walk_at "st"
  rw [decide_eq_true (show (h.ws.length : Int) ≤ 2 by omega)]
  walk_at "st"
  refine lc_mapS h.ws (fun x => .str x.s) (fun _ => .bl true) srcC_ok (line3 (by omega)) (fun a acc d ha hdt R hR => ?_) fun a ha => ?_
  · refine k_ask rfl ⟨by simp, ?_⟩
    walk_at "st"
    refine ⟨.str d.s, ["cold", "mild"], true, rfl, ?_, hR⟩
    cases d <;> rfl
  walk_at "st"
  refine k_rall mset_same (toBs_map h.ws) ?_
  rw [all_true]
  walk_at "st"
  refine k_tolst fun b hb => ?_
  refine k_sortS ?_
  walk_at "st"
  refine k_asTup (k_ask (toSs_ws h.ws) ⟨?_, ?_, fun ys p hy hs hp => ?_⟩)
  · rcases o.ws with e | e | e <;> rw [e] <;> decide +kernel
  · rw [List.length_map]; omega
  have hpb : b ≠ p := Ne.symm (mneN hp)
  rw [ws_sorted o.ws hy hs]
  refine k_neWs o.ws ((mset_ne hpb).trans mset_same) mset_same ?_
  walk_at "st"
  have q := ((q.new (o := .lst (h.ws.map fun _ => .bl true)) ha).new (o := .lst (h.ws.map fun w => D.str w.s)) hb).new (o := .lst ((h.ws.map Wth.s).map D.str)) hp
  generalize mset _ p _ = M4 at q ⊢
  refine lc_mapS [h.a, h.b] persD (fun _ => .bl true) srcC_ok (line3 (by simp)) (fun a acc d ha hdt R hR => ?_) fun c hc => ?_
  · refine k_ask rfl ⟨by simp, ?_⟩
    walk_at "st"
    refine ⟨d, h.top, rfl, ?_, hR⟩
    rcases List.mem_cons.mp hdt with rfl | h'
    · exact o.a
    rcases List.mem_cons.mp h' with rfl | h'
    · exact o.b
    cases h'
  · walk_at "st"
    exact q.new hc

abbrev s_need_house : Stmt := topS 36
theorem sc_need_house : FnScope ["value"] ["value"] (defScope s_need_house) := ⟨rfl, rfl, rfl, by decide +kernel, rfl, by decide +kernel, by decide +kernel⟩
def sp_need_house : DSp := fun ds M Q _ => ∃ h, ds = [houseD h] ∧ h.Ok ∧ Q .non M
theorem ok_need_house {f : Addr} {fd : FuncData} (c_is_house_value : Cal P w K mg base CX0 "is_house_value" 6 ["value"] sp_is_house_value) (F : Fun K "need_house" "need_house" s_need_house f fd) : DFn P w K mg base CX0 7 f fd ["value"] sp_need_house := by
  refine dfn_ok F sc_need_house (by walk_at "len") fun cdv A outer s H E hr => ?_
  have hu := hr.units
  refine ⟨_, (dss_one (ds_if (dt_not (dt_val (de_cal c_is_house_value (hr.mono (by decide)) (by rfl) pass0 (da_cons (dv 0) da_nil)))) (dss_one ds_never) dss_nil)), ?_⟩
  rintro ds M Q EX ⟨h, rfl, o, q⟩
  have q := fin.same q
  walk_at "st"
  refine ⟨h, rfl, o, ?_⟩
  walk_at "st"
  exact q

abbrev s_is_start : Stmt := topS 37
theorem sc_is_start : FnScope ["house", "value"] ["house", "value"] (defScope s_is_start) := ⟨rfl, rfl, rfl, by decide +kernel, rfl, by decide +kernel, by decide +kernel⟩
def sp_is_start : DSp := fun ds M Q _ => ∃ (h : House) (s : St0), ds = [houseD h, startDt s] ∧ h.Ok ∧ (s.n : Int) ≤ 2 * h.top ∧ Q (.bl true) M
theorem ok_is_start {f : Addr} {fd : FuncData} (c_need_house : Cal P w K mg base CX0 "need_house" 7 ["value"] sp_need_house) (c_is_start_value : Cal P w K mg base CX0 "is_start_value" 3 ["house", "value"] sp_is_start_value) (F : Fun K "is_start" "is_start" s_is_start f fd) : DFn P w K mg base CX0 8 f fd ["house", "value"] sp_is_start := by
  refine dfn_ok F sc_is_start (by walk_at "len") fun cdv A outer s H E hr => ?_
  have hu := hr.units
  refine ⟨_, (dss_cons (ds_expr (de_cal c_need_house (hr.mono (by decide)) (by rfl) pass0 (da_cons (dv 0) da_nil)))
        (dss_one (ds_ret (de_cal c_is_start_value (hr.mono (by decide)) (by rfl) pass0 (da_cons (dv 0) (da_cons (dv 1) da_nil)))))), ?_⟩
  rintro ds M Q EX ⟨h, s, rfl, o, hn, q⟩
  have q := fin.same q
  walk_at "st"
  refine ⟨h, rfl, o, ?_⟩
  walk_at "st"
  refine ⟨h, s, rfl, o, hn, ?_⟩
  exact q
end
end L3

/-! The graph, what is reached, a way to a stand. -/
namespace L3
open PySem PySem.Spec PyProof.Rows L2
local macro_rules | `(tactic| walk_at "mem") => `(tactic| first | assumption | exact mset_same | (refine (mset_ne ?_).trans ?_ <;> first | assumption | exact Ne.symm (by assumption) | exact mset_same | (refine (mset_ne ?_).trans ?_ <;> first | assumption | exact Ne.symm (by assumption) | exact mset_same)))
local macro_rules | `(tactic| walk_at "line") => `(tactic| first | decide | (simp only [List.length_cons, List.length_nil, List.length_map, List.length_append]; first | decide | omega) | (refine sl_b ?_; simp only [List.length_cons, List.length_nil, List.length_map, List.length_append]; first | decide | omega))
local macro_rules | `(tactic| walk_at "s1") => `(tactic| first
  | ((with_reducible refine' k_var ?g0 ?_); (case g0 => exact rfl))
  | ((with_reducible refine' k_seqN ?g0 ?_); (case g0 => (try simp only [startD, g_cons, g_nil, List.map_cons, List.map_nil, List.length_cons, List.length_nil, Nat.reduceAdd, Nat.reduceSub, List.replicate_succ, List.replicate_zero, List.cons_append, List.nil_append, List.set_cons_zero, List.set_cons_succ, List.zip_cons_cons, List.zip_nil_right, List.zip_nil_left]); try exact rfl))
  | ((with_reducible refine' k_retN ?g0 ?_); (case g0 => (try simp only [startD, g_cons, g_nil, List.map_cons, List.map_nil, List.length_cons, List.length_nil, Nat.reduceAdd, Nat.reduceSub, List.replicate_succ, List.replicate_zero, List.cons_append, List.nil_append, List.set_cons_zero, List.set_cons_succ, List.zip_cons_cons, List.zip_nil_right, List.zip_nil_left]); try exact rfl))
  | (with_reducible refine k_nedev ?_)
  | (with_reducible refine k_ifS ?_)
  | (with_reducible refine k_next ?_)
  | (with_reducible refine k_drop ?_)
  | (with_reducible refine k_set ?_)
  | (with_reducible refine k_asg ?_)
  | (with_reducible refine k_sub ?_)
  | (with_reducible refine k_par ?_)
  | (with_reducible refine k_asP ?_)
  | (with_reducible refine k_par3 ?_)
  | (with_reducible refine k_asP3 ?_)
  | (with_reducible refine k_aug ?_)
  | (with_reducible refine k_for ?_)
  | (with_reducible refine k_B ?_)
  | (with_reducible refine k_asB ?_)
  | (with_reducible refine k_and ?_)
  | (with_reducible refine k_or ?_)
  | (with_reducible refine k_not ?_)
  | (with_reducible refine k_andV ?_)
  | (with_reducible refine k_orV ?_)
  | (with_reducible refine k_notV ?_)
  | (with_reducible refine k_chain ?_)
  | (with_reducible refine k_yes ?_)
  | (with_reducible refine k_if ?_)
  | (with_reducible refine k_c ?_)
  | (with_reducible refine k_op ?_)
  | (with_reducible refine k_nil ?_)
  | (with_reducible refine k_cons ?_)
  | (with_reducible refine k_tup ?_)
  | (with_reducible refine k_lst ?_)
  | (with_reducible refine k_call ?_)
  | (with_reducible refine k_fn ?_)
  | (with_reducible refine k_sl ?_)
  | (with_reducible refine k_app ?_)
  | (with_reducible refine k_pop ?_)
  | (with_reducible refine k_it ?_)
  | (with_reducible refine k_ik ?_)
  | (with_reducible refine k_il ?_)
  | (with_reducible refine k_ir ?_)
  | (with_reducible refine k_lc ?_)
  | (with_reducible refine k_addi ?_)
  | (with_reducible refine k_iaddi ?_)
  | (with_reducible refine k_eqi ?_)
  | (with_reducible refine k_nei ?_)
  | (with_reducible refine k_eqs ?_)
  | (with_reducible refine k_nes ?_)
  | (with_reducible refine k_eqb ?_)
  | (with_reducible refine k_neb ?_)
  | (with_reducible refine k_eqst ?_)
  | (with_reducible refine k_isN ?_)
  | (with_reducible refine k_notN ?_)
  | (with_reducible refine k_rsls ?_)
  | (with_reducible refine k_rsl ?_)
  | (with_reducible refine k_lent ?_)
  | (with_reducible refine k_i2 ?_)
  | (with_reducible refine k_toi ?_)
  | (with_reducible refine k_tob ?_)
  | (with_reducible refine k_itw ?_)
  | (with_reducible refine k_itt ?_)
  | (with_reducible refine k_lc2 ?_)
  | (with_reducible refine k_get ?_)
  | (with_reducible refine k_dc ?_)
  | ((with_reducible refine' k_ask ?g0 ?_); (case g0 => exact rfl))
  | ((with_reducible refine' k_ix ?g0 ?_); (case g0 => exact rfl))
  | ((with_reducible refine' k_lix ?g0 ?g1 ?_); (case g0 => walk_at "mem"); (case g1 => exact rfl))
  | ((with_reducible refine' k_int ?g0 ?_); (case g0 => first | exact trivial | exact cm2 | (show (0 : Int) < _; omega) | (show CMul _ _; exact .inl ⟨by omega, by omega⟩) | (show CMul _ _; exact .inr ⟨by omega, by omega⟩) | (show CDiv _ _; exact ⟨by omega, by omega⟩) | exact ⟨by decide, by decide⟩))
  | ((with_reducible refine' k_addt ?g0 ?_); (case g0 => walk_at "line"))
  | ((with_reducible refine' sl_s ?g0 ?_); (case g0 => walk_at "line"))
  | ((with_reducible refine' k_inT ?g0 ?g1 ?_); (case g0 => exact rfl); (case g1 => exact rfl))
  | ((with_reducible refine' k_ninT ?g0 ?g1 ?_); (case g0 => exact rfl); (case g1 => exact rfl))
  | ((with_reducible refine' k_inL ?g0 ?g1 ?g2 ?_); (case g0 => walk_at "mem"); (case g1 => exact rfl); (case g2 => exact rfl))
  | ((with_reducible refine' k_ninL ?g0 ?g1 ?g2 ?_); (case g0 => walk_at "mem"); (case g1 => exact rfl); (case g2 => exact rfl))
  | ((with_reducible refine' k_lenl ?g0 ?_); (case g0 => walk_at "mem"))
  | ((with_reducible refine' k_ninD ?g0 ?_); (case g0 => walk_at "mem"))
  | ((with_reducible refine' k_inD ?g0 ?_); (case g0 => walk_at "mem"))
  | ((with_reducible refine' k_rik ?g0 ?_); (case g0 => walk_at "mem"))
  | ((with_reducible refine' k_ril ?g0 ?_); (case g0 => walk_at "mem"))
  | ((with_reducible refine' k_isi ?g0 ?g1 ?_); (case g0 => exact rfl); (case g1 => exact rfl))
  | ((with_reducible refine' k_isl ?g0 ?_); (case g0 => walk_at "mem"))
  | ((with_reducible refine' k_rget ?g0 ?_); (case g0 => walk_at "mem"))
  | ((with_reducible refine' k_dix ?g0 ?g1 ?_); (case g0 => walk_at "mem"); (case g1 => assumption))
  | ((with_reducible refine' k_iaddl ?g0 ?g1 ?g2 ?_); (case g0 => walk_at "mem"); (case g1 => walk_at "mem"); (case g2 => walk_at "line"))
  | ((with_reducible refine' k_addl ?g0 ?g1 ?g2 ?_); (case g0 => walk_at "mem"); (case g1 => walk_at "mem"); (case g2 => walk_at "line"))
  | ((with_reducible refine' k_rall ?g0 ?g1 ?_); (case g0 => walk_at "mem"); (case g1 => exact rfl))
  | ((with_reducible refine' k_tot ?g0 ?_); (case g0 => walk_at "mem"))
  | ((with_reducible refine' k_t ?g0 ?_); (case g0 => exact rfl))
  | ((with_reducible refine' k_f ?g0 ?_); (case g0 => exact rfl)))
local macro_rules | `(tactic| walk_at "st") => `(tactic| (repeat (walk_at "s1")); try dsimp only)
local macro_rules | `(tactic| walk_at "c") => `(tactic| try simp only [inV_two, d_no, d_on, d_off, d_open, d_shut, d_no', d_on', d_off', d_open', d_shut', w_cold, w_cold', v_heat, reduceCtorEq, decide_true, decide_false, Bool.or_false, Bool.false_or, Bool.or_true, Bool.true_or, Bool.not_true, Bool.not_false, Bool.false_eq_true, Bool.true_eq_false, if_true, if_false, reduceIte])
local macro_rules | `(tactic| walk_at "len") => `(tactic| (intro ds M Q EX h; repeat (obtain ⟨x, h⟩ := h; try (subst x; exact rfl))))
theorem lk_snoc {kvs : List (Stand × D)} {s : Stand} {d : D} (h : s ∉ keysOf kvs) : lk (kvs ++ [(s, d)]) s = some d := by
  have h := lk_none (show s ∉ kvs.map (·.1) from h)
  unfold lk at h ⊢
  rw [List.find?_append, Option.map_eq_none_iff.mp h]
  simp
theorem keys_snoc {kvs : List (Stand × D)} {s : Stand} {d : D} : keysOf (kvs ++ [(s, d)]) = keysOf kvs ++ [s] := by
  unfold keysOf
  rw [List.map_append]
  rfl
theorem ix_map {α : Type} {l : List α} {f : α → D} {k : Nat} {x : α} (h : l[k]? = some x) : ixo (.tup (l.map f)) (.int (.ofNat k)) = some (f x) := by
  show (l.map f)[k]? = _
  rw [List.getElem?_map, h]
  rfl
def gLine (h : House) (K : List Stand) : List Stand := (starts h).map begin0 ++ K.flatMap (nexts h)
theorem gLine_snoc (h : House) (K : List Stand) (s : Stand) : gLine h (K ++ [s]) = gLine h K ++ nexts h s := by
  unfold gLine
  rw [List.flatMap_append, List.append_assoc]
  simp
theorem gLine_len {h : House} (o : h.Ok) (K : List Stand) : (gLine h K).length ≤ 36 + 2 * K.length := by
  unfold gLine
  rw [List.length_append, List.length_map]
  have h1 := starts_len o
  have : (K.flatMap (nexts h)).length ≤ 2 * K.length := by
    induction K with
    | nil => simp
    | cons s K ih =>
      rw [List.flatMap_cons, List.length_append, List.length_cons]
      have := nexts_len o s
      omega
  omega
theorem gLine_reach {h : House} {K : List Stand} (r : ∀ x ∈ K, Reach h x) : ∀ x ∈ gLine h K, Reach h x := fun x m => by
  rcases List.mem_append.mp m with m | m
  · obtain ⟨t, ht, rfl⟩ := List.mem_map.mp m
    exact .start ht
  · obtain ⟨s, hs, m⟩ := List.mem_flatMap.mp m
    obtain ⟨w, hw, rfl⟩ := List.mem_map.mp m
    exact (r s hs).next hw
structure GInv (h : House) (M0 : Mm) (f l : Addr) (K : List Stand) (k : Nat) (M' : Mm) : Prop where
  le : Le M0 M'
  hf : ∃ o kvs, M' f = some (.dct o kvs) ∧ keysOf kvs = K ∧ ∀ p ∈ kvs, ∃ r, p.2 = .obj r ∧ r ≠ l ∧ M' r = some (.lst (h.ws.map (rowD h p.1)))
  hl : M' l = some (.lst ((gLine h K).map standD))
  nd : K.Nodup
  rc : ∀ x ∈ K, Reach h x
  kk : k ≤ (gLine h K).length
  done : ∀ x ∈ (gLine h K).take k, x ∈ K
theorem GInv.all {h : House} {M0 M' : Mm} {f l : Addr} {K : List Stand} {k : Nat} (G : GInv h M0 f l K k M') (hk : (gLine h K).length ≤ k) : ∀ s, s ∈ K ↔ Reach h s := fun s => by
  refine ⟨G.rc s, fun r => ?_⟩
  have d := G.done
  rw [List.take_of_length_le hk] at d
  exact r.ind (fun t m => d _ (List.mem_append_left _ (List.mem_map.mpr ⟨t, m, rfl⟩))) fun s hs w hw => d _ (List.mem_append_right _ (List.mem_flatMap.mpr ⟨s, hs, List.mem_map.mpr ⟨w, hw, rfl⟩⟩))
section
variable {P : Program} {w : World} {K : PySem.W.Frag} {mg : Str → Option Value} {base : Heap}
abbrev s_graph_of : Stmt := topS 51
theorem sc_graph_of : FnScope ["house", "found", "line", "at", "stand", "start", "weather", "row"] ["house"] (defScope s_graph_of) := ⟨rfl, rfl, rfl, by decide +kernel, rfl, by decide +kernel, by decide +kernel⟩
def sp_graph_of : DSp := fun ds M Q _ => ∃ h, ds = [houseD h] ∧ h.Ok ∧ ∀ f o kvs M', M f = none → Le M M' → M' f = some (.dct o kvs) → Graph h M' kvs → Q (.obj f) M'
theorem ok_graph_of {f : Addr} {fd : FuncData} (c_begun : Cal P w K mg base CX0 "begun" 2 ["house", "start"] sp_begun) (c_starts_of : Cal P w K mg base CX0 "starts_of" 4 ["house"] sp_starts_of) (c_step : Cal P w K mg base CX0 "step" 4 ["house", "stand", "weather"] sp_step) (m_len : mg "len" = none) (F : Fun K "graph_of" "graph_of" s_graph_of f fd) : DFn P w K mg base CX0 5 f fd ["house"] sp_graph_of := by
  refine dfn_ok F sc_graph_of (by walk_at "len") fun cdv A outer s H E hr => ?_
  have hu := hr.units
  refine ⟨_, (dss_cons (ds_par3 (i := 1) (j := 2) (l := 3) (ps_par3 (by rfl) sc_graph_of.nd rfl rfl rfl (by decide) (by decide) (by decide) rfl rfl rfl (da_cons de_new (da_cons (de_lc (own := [("start", 5)]) rfl sc_graph_of.nd (di_list (de_cal c_starts_of (hr.mono (by decide)) (by rfl) pass0 (da_cons (dv 0) da_nil))) (blkOk_by (own := [("start", 5)]) (N := ["house", "found", "line", "at", "stand", "start", "weather", "row"]) (sc := defScope s_graph_of) (by decide +kernel)) (fun _ _ _ _ _ => (dg_name (pg_name (i := 5) sc_graph_of.nd rfl (Or.inl rfl)))) (fun _ _ _ _ _ => dts_nil) (fun _ _ _ _ _ => (de_cal c_begun (hr.mono (by decide)) (by rfl) pass0 (da_cons (dv 0) (da_cons (dv 5) da_nil))))) (da_cons de_int da_nil))) (by rfl)))
        (dss_cons (ds_while PassesOwn.never (dt_cmp op_ltD (dv 3) (de_callB call_lenD (by rfl) m_len PySem.boot_len (da_cons (dv 2) da_nil)) (nomark _)) (dss_cons (ds_set (i := 4) sc_graph_of.nd rfl (.inr rfl) (de_ix hu (dv 2) (dv 3) (fun _ _ => rfl)))
        (dss_cons (ds_aug (i := 3) sc_graph_of.nd rfl (.inl rfl) de_int)
        (dss_one (ds_if (dt_cmp (op_ninDD hu) (dv 4) (dv 1) (by rfl)) (dss_cons (ds_sub hu (de_lc (own := [("weather", 6)]) rfl sc_graph_of.nd (di_tup (de_ix hu (dv 0) de_int (fun _ _ => rfl))) (blkOk_by (own := [("weather", 6)]) (N := ["house", "found", "line", "at", "stand", "start", "weather", "row"]) (sc := defScope s_graph_of) (by decide +kernel)) (fun _ _ _ _ _ => (dg_name (pg_name (i := 6) sc_graph_of.nd rfl (Or.inl rfl)))) (fun _ _ _ _ _ => dts_nil) (fun _ _ _ _ _ => (de_op op_addD (de_tup (da_cons (dv 6) da_nil)) (de_cal c_step (hr.mono (by decide)) (by rfl) pass0 (da_cons (dv 0) (da_cons (dv 4) (da_cons (dv 6) da_nil))))))) (dv 1) (dv 4))
        (dss_one (ds_aug (i := 2) sc_graph_of.nd rfl (.inl rfl) (de_lc (own := [("row", 7)]) rfl sc_graph_of.nd (di_list (de_ix hu (dv 1) (dv 4) (fun _ _ => rfl))) (blkOk_by (own := [("row", 7)]) (N := ["house", "found", "line", "at", "stand", "start", "weather", "row"]) (sc := defScope s_graph_of) (by decide +kernel)) (fun _ _ _ _ _ => (dg_name (pg_name (i := 7) sc_graph_of.nd rfl (Or.inl rfl)))) (fun _ _ _ _ _ => dts_nil) (fun _ _ _ _ _ => (de_ix hu (dv 7) de_int (fun _ _ => rfl))))))) dss_nil)))))
        (dss_one (ds_ret (dv 1))))), ?_⟩
  rintro ds M Q EX ⟨h, rfl, o, q⟩
  walk_at "st"
  intro f hf
  walk_at "st"
  refine ⟨h, rfl, o, fun a ha => ?_⟩
  walk_at "st"
  have hfa : f ≠ a := Ne.symm (mneN ha)
  refine lc_mapS (starts h) startDt (fun s => standD (begin0 s)) (srcL_ok mset_same) (line3 (Nat.le_trans (starts_len o) (by decide))) (fun b acc s hb hs R hR => ?_) fun l hl => ?_
  · refine k_ask rfl ⟨by simp, ?_⟩
    walk_at "st"
    exact ⟨_, s, rfl, hR⟩
  walk_at "st"
  have hla : l ≠ a := mneN hl
  have hlf : l ≠ f := mneN (mnone hl)
  have hlM : M l = none := mnone (mnone hl)
  have haM : M a = none := mnone ha
  refine ⟨fun m Γ M' => ∃ K k, GInv h M f l K k M' ∧ m + 3 * K.length + k = 3 * 700 + (gLine h K).length ∧ ∃ x4 x5 x6 x7, Γ = [some (houseD h), some (.obj f), some (.obj l), some (.int (.ofNat k)), x4, x5, x6, x7], ?_, ?_⟩
  · refine ⟨3 * 700 + (gLine h []).length, [], 0, ⟨((Le.rfl'.at hf).at haM).at hlM, ⟨_, [], (mset_ne (Ne.symm hlf)).trans ((mset_ne hfa).trans mset_same), rfl, fun _ z => nomatch z⟩, ?_, List.nodup_nil, fun _ z => (nomatch z), Nat.zero_le _, fun _ z => by simp at z⟩, by simp, _, _, _, _, rfl⟩
    rw [mset_same]
    unfold gLine
    simp [Function.comp_def, List.map_map]
  rintro m Γ M' ⟨K0, k, G, hm, x4, x5, x6, x7, rfl⟩
  have hl' := G.hl
  walk_at "st"
  rw [List.length_map]
  by_cases hk : k < (gLine h K0).length
  · refine k_t (decide_eq_true (show (k : Int) < ((gLine h K0).length : Int) by omega)) ?_
    have e0 := List.getElem?_eq_getElem hk
    generalize (gLine h K0)[k] = s at e0
    have ms := List.mem_of_getElem? e0
    have sr := gLine_reach G.rc s ms
    have so := sr.ok o
    have hK := stands_len o G.nd fun x hx => (G.rc x hx).ok o
    obtain ⟨ob, kvs, hf', ek, hrow⟩ := G.hf
    walk_at "st"
    refine k_lix hl' (ix_map e0) ?_
    walk_at "st"
    rw [lk_isSome]
    have tk : ∀ (K1 : List Stand), (∃ z, gLine h K1 = gLine h K0 ++ z) → (∀ x ∈ K0, x ∈ K1) → s ∈ K1 → ∀ x ∈ (gLine h K1).take (k + 1), x ∈ K1 := by
      rintro K1 ⟨z, e1⟩ sub hs x hx
      rw [e1, List.take_append_of_le_length (by omega), List.take_add_one, e0] at hx
      obtain hx | hx := List.mem_append.mp hx
      · exact sub _ (G.done x hx)
      · simp at hx; rw [hx]; exact hs
    by_cases hs : s ∈ K0
    · rw [decide_eq_true (show s ∈ kvs.map (·.1) by rw [← ek] at hs; exact hs)]
      walk_at "st"
      exact ⟨m - 1, by omega, K0, k + 1, ⟨G.le, G.hf, G.hl, G.nd, G.rc, by omega, tk K0 ⟨[], by simp⟩ (fun _ z => z) hs⟩, by omega, _, _, _, _, rfl⟩
    · have hsk : s ∉ keysOf kvs := by rw [ek]; exact hs
      rw [decide_eq_false (show s ∉ kvs.map (·.1) from hsk)]
      walk_at "st"
      refine lc_mapS h.ws (fun w => .str w.s) (rowD h s) srcC_ok (line3 (Nat.le_trans (ws_len o) (by decide))) (fun b acc w hb hw R hR => ?_) fun r hr => ?_
      · refine k_ask rfl ⟨by simp, ?_⟩
        walk_at "st"
        refine ⟨h, s, w, rfl, o, so, ?_⟩
        walk_at "st"
        exact hR
      have hrf : r ≠ f := Ne.symm (mne hf' hr)
      have hrl : r ≠ l := Ne.symm (mne hl' hr)
      walk_at "st"
      refine k_rset (kvs := kvs) ((mset_ne (Ne.symm hrf)).trans hf') (lk_none hsk) (line3 ?_) fun ob' => ?_
      · have : kvs.length = K0.length := by rw [← ek]; unfold keysOf; rw [List.length_map]
        omega
      walk_at "st"
      refine k_dix mset_same (lk_snoc hsk) ?_
      walk_at "st"
      refine lc_mapS h.ws (rowD h s) (fun w => standD (tickS h s w)) (srcL_ok ((mset_ne hrf).trans mset_same)) (line3 (Nat.le_trans (ws_len o) (by decide))) (fun b acc w hb hw R hR => ?_) fun t ht => ?_
      · refine k_ask rfl ⟨by simp, ?_⟩
        unfold rowD
        walk_at "st"
        exact hR
      have htf : t ≠ f := mneN ht
      have htr : t ≠ r := mneN (mnone ht)
      have ht' : M' t = none := mnone (mnone ht)
      have htl : t ≠ l := Ne.symm (mne hl' ht')
      have hnl := nexts_len o s
      have hgl := gLine_len o K0
      refine k_iaddl (ds := (gLine h K0).map standD) (es := h.ws.map fun w => standD (tickS h s w)) ((mset_ne (Ne.symm htl)).trans ((mset_ne hlf).trans ((mset_ne (Ne.symm hrl)).trans hl'))) mset_same (sl_b ?_) ?_
      · unfold nexts at hnl
        rw [List.length_map] at hnl
        rw [List.length_map, List.length_map]
        omega
      have eqn : (gLine h K0).map standD ++ h.ws.map (fun w => standD (tickS h s w)) = (gLine h (K0 ++ [s])).map standD := by
        rw [gLine_snoc, List.map_append]
        unfold nexts
        rw [List.map_map]
        rfl
      rw [eqn]
      refine ⟨m - 4 + (nexts h s).length, by omega, K0 ++ [s], k + 1, ⟨?_, ⟨ob', kvs ++ [(s, .obj r)], ?_, ?_, fun p hp => ?_⟩, mset_same, ?_, ?_, ?_, tk _ ⟨_, gLine_snoc h K0 s⟩ (fun _ z => List.mem_append_left _ z) (List.mem_append_right _ (List.mem_singleton.mpr rfl))⟩, ?_, _, _, _, _, rfl⟩
      · exact (((G.le.at (G.le.free hr)).at hf).at (G.le.free ht')).at hlM
      · exact (mset_ne (Ne.symm hlf)).trans ((mset_ne (Ne.symm htf)).trans mset_same)
      · rw [keys_snoc, ek]
      · obtain hp | hp := List.mem_append.mp hp
        · obtain ⟨r', e1, e2, e3⟩ := hrow p hp
          have n1 : r' ≠ f := fun e => by rw [e, hf'] at e3; cases e3
          exact ⟨r', e1, e2, (mset_ne e2).trans ((mset_ne (mne e3 ht')).trans ((mset_ne n1).trans ((mset_ne (mne e3 hr)).trans e3)))⟩
        · rw [(List.mem_singleton.mp hp)]
          exact ⟨r, rfl, hrl, (mset_ne hrl).trans ((mset_ne (Ne.symm htr)).trans ((mset_ne hrf).trans mset_same))⟩
      · exact List.nodup_append.mpr ⟨G.nd, by simp, fun a ha b hb => by rw [List.mem_singleton.mp hb]; exact fun e => hs (e ▸ ha)⟩
      · intro x hx
        obtain hx | hx := List.mem_append.mp hx
        · exact G.rc x hx
        · rw [List.mem_singleton.mp hx]; exact sr
      · rw [gLine_snoc, List.length_append]; omega
      · rw [gLine_snoc, List.length_append, List.length_append, List.length_singleton]
        omega
  · refine k_f (decide_eq_false (show ¬ (k : Int) < ((gLine h K0).length : Int) by omega)) ?_
    walk_at "st"
    obtain ⟨ob, kvs, hf', ek, hrow⟩ := G.hf
    exact fin.same (q f ob kvs M' hf G.le hf' ⟨by rw [ek]; exact G.nd, fun s => by rw [ek]; exact G.all (by omega) s, fun p hp => let ⟨r, e1, _, e3⟩ := hrow p hp; ⟨r, e1, e3⟩⟩)
end
end L3

/-! What is reached; a way from a start. -/
namespace L3
open PySem PySem.Spec PyProof.Rows L2
local macro_rules | `(tactic| walk_at "mem") => `(tactic| first | assumption | exact mset_same | (refine (mset_ne ?_).trans ?_ <;> first | assumption | exact Ne.symm (by assumption) | exact mset_same | (refine (mset_ne ?_).trans ?_ <;> first | assumption | exact Ne.symm (by assumption) | exact mset_same)))
local macro_rules | `(tactic| walk_at "line") => `(tactic| first | decide | (simp only [List.length_cons, List.length_nil, List.length_map, List.length_append]; first | decide | omega) | (refine sl_b ?_; simp only [List.length_cons, List.length_nil, List.length_map, List.length_append]; first | decide | omega))
local macro_rules | `(tactic| walk_at "s1") => `(tactic| first
  | ((with_reducible refine' k_var ?g0 ?_); (case g0 => exact rfl))
  | ((with_reducible refine' k_seqN ?g0 ?_); (case g0 => (try simp only [startD, g_cons, g_nil, List.map_cons, List.map_nil, List.length_cons, List.length_nil, Nat.reduceAdd, Nat.reduceSub, List.replicate_succ, List.replicate_zero, List.cons_append, List.nil_append, List.set_cons_zero, List.set_cons_succ, List.zip_cons_cons, List.zip_nil_right, List.zip_nil_left]); try exact rfl))
  | ((with_reducible refine' k_retN ?g0 ?_); (case g0 => (try simp only [startD, g_cons, g_nil, List.map_cons, List.map_nil, List.length_cons, List.length_nil, Nat.reduceAdd, Nat.reduceSub, List.replicate_succ, List.replicate_zero, List.cons_append, List.nil_append, List.set_cons_zero, List.set_cons_succ, List.zip_cons_cons, List.zip_nil_right, List.zip_nil_left]); try exact rfl))
  | (with_reducible refine k_nedev ?_)
  | (with_reducible refine k_ifS ?_)
  | (with_reducible refine k_next ?_)
  | (with_reducible refine k_drop ?_)
  | (with_reducible refine k_set ?_)
  | (with_reducible refine k_asg ?_)
  | (with_reducible refine k_sub ?_)
  | (with_reducible refine k_par ?_)
  | (with_reducible refine k_asP ?_)
  | (with_reducible refine k_par3 ?_)
  | (with_reducible refine k_asP3 ?_)
  | (with_reducible refine k_aug ?_)
  | (with_reducible refine k_for ?_)
  | (with_reducible refine k_B ?_)
  | (with_reducible refine k_asB ?_)
  | (with_reducible refine k_and ?_)
  | (with_reducible refine k_or ?_)
  | (with_reducible refine k_not ?_)
  | (with_reducible refine k_andV ?_)
  | (with_reducible refine k_orV ?_)
  | (with_reducible refine k_notV ?_)
  | (with_reducible refine k_chain ?_)
  | (with_reducible refine k_yes ?_)
  | (with_reducible refine k_if ?_)
  | (with_reducible refine k_c ?_)
  | (with_reducible refine k_op ?_)
  | (with_reducible refine k_nil ?_)
  | (with_reducible refine k_cons ?_)
  | (with_reducible refine k_tup ?_)
  | (with_reducible refine k_lst ?_)
  | (with_reducible refine k_call ?_)
  | (with_reducible refine k_fn ?_)
  | (with_reducible refine k_sl ?_)
  | (with_reducible refine k_app ?_)
  | (with_reducible refine k_pop ?_)
  | (with_reducible refine k_it ?_)
  | (with_reducible refine k_ik ?_)
  | (with_reducible refine k_il ?_)
  | (with_reducible refine k_ir ?_)
  | (with_reducible refine k_lc ?_)
  | (with_reducible refine k_addi ?_)
  | (with_reducible refine k_iaddi ?_)
  | (with_reducible refine k_eqi ?_)
  | (with_reducible refine k_nei ?_)
  | (with_reducible refine k_eqs ?_)
  | (with_reducible refine k_nes ?_)
  | (with_reducible refine k_eqb ?_)
  | (with_reducible refine k_neb ?_)
  | (with_reducible refine k_eqst ?_)
  | (with_reducible refine k_isN ?_)
  | (with_reducible refine k_notN ?_)
  | (with_reducible refine k_rsls ?_)
  | (with_reducible refine k_rsl ?_)
  | (with_reducible refine k_lent ?_)
  | (with_reducible refine k_i2 ?_)
  | (with_reducible refine k_toi ?_)
  | (with_reducible refine k_tob ?_)
  | (with_reducible refine k_itw ?_)
  | (with_reducible refine k_itt ?_)
  | (with_reducible refine k_lc2 ?_)
  | (with_reducible refine k_get ?_)
  | (with_reducible refine k_dc ?_)
  | ((with_reducible refine' k_ask ?g0 ?_); (case g0 => exact rfl))
  | ((with_reducible refine' k_ix ?g0 ?_); (case g0 => exact rfl))
  | ((with_reducible refine' k_lix ?g0 ?g1 ?_); (case g0 => walk_at "mem"); (case g1 => exact rfl))
  | ((with_reducible refine' k_int ?g0 ?_); (case g0 => first | exact trivial | exact cm2 | (show (0 : Int) < _; omega) | (show CMul _ _; exact .inl ⟨by omega, by omega⟩) | (show CMul _ _; exact .inr ⟨by omega, by omega⟩) | (show CDiv _ _; exact ⟨by omega, by omega⟩) | exact ⟨by decide, by decide⟩))
  | ((with_reducible refine' k_addt ?g0 ?_); (case g0 => walk_at "line"))
  | ((with_reducible refine' sl_s ?g0 ?_); (case g0 => walk_at "line"))
  | ((with_reducible refine' k_inT ?g0 ?g1 ?_); (case g0 => exact rfl); (case g1 => exact rfl))
  | ((with_reducible refine' k_ninT ?g0 ?g1 ?_); (case g0 => exact rfl); (case g1 => exact rfl))
  | ((with_reducible refine' k_inL ?g0 ?g1 ?g2 ?_); (case g0 => walk_at "mem"); (case g1 => exact rfl); (case g2 => exact rfl))
  | ((with_reducible refine' k_ninL ?g0 ?g1 ?g2 ?_); (case g0 => walk_at "mem"); (case g1 => exact rfl); (case g2 => exact rfl))
  | ((with_reducible refine' k_lenl ?g0 ?_); (case g0 => walk_at "mem"))
  | ((with_reducible refine' k_ninD ?g0 ?_); (case g0 => walk_at "mem"))
  | ((with_reducible refine' k_inD ?g0 ?_); (case g0 => walk_at "mem"))
  | ((with_reducible refine' k_rik ?g0 ?_); (case g0 => walk_at "mem"))
  | ((with_reducible refine' k_ril ?g0 ?_); (case g0 => walk_at "mem"))
  | ((with_reducible refine' k_isi ?g0 ?g1 ?_); (case g0 => exact rfl); (case g1 => exact rfl))
  | ((with_reducible refine' k_isl ?g0 ?_); (case g0 => walk_at "mem"))
  | ((with_reducible refine' k_rget ?g0 ?_); (case g0 => walk_at "mem"))
  | ((with_reducible refine' k_dix ?g0 ?g1 ?_); (case g0 => walk_at "mem"); (case g1 => assumption))
  | ((with_reducible refine' k_iaddl ?g0 ?g1 ?g2 ?_); (case g0 => walk_at "mem"); (case g1 => walk_at "mem"); (case g2 => walk_at "line"))
  | ((with_reducible refine' k_addl ?g0 ?g1 ?g2 ?_); (case g0 => walk_at "mem"); (case g1 => walk_at "mem"); (case g2 => walk_at "line"))
  | ((with_reducible refine' k_rall ?g0 ?g1 ?_); (case g0 => walk_at "mem"); (case g1 => exact rfl))
  | ((with_reducible refine' k_tot ?g0 ?_); (case g0 => walk_at "mem"))
  | ((with_reducible refine' k_t ?g0 ?_); (case g0 => exact rfl))
  | ((with_reducible refine' k_f ?g0 ?_); (case g0 => exact rfl)))
local macro_rules | `(tactic| walk_at "st") => `(tactic| (repeat (walk_at "s1")); try dsimp only)
local macro_rules | `(tactic| walk_at "c") => `(tactic| try simp only [inV_two, d_no, d_on, d_off, d_open, d_shut, d_no', d_on', d_off', d_open', d_shut', w_cold, w_cold', v_heat, reduceCtorEq, decide_true, decide_false, Bool.or_false, Bool.false_or, Bool.or_true, Bool.true_or, Bool.not_true, Bool.not_false, Bool.false_eq_true, Bool.true_eq_false, if_true, if_false, reduceIte])
local macro_rules | `(tactic| walk_at "len") => `(tactic| (intro ds M Q EX h; repeat (obtain ⟨x, h⟩ := h; try (subst x; exact rfl))))
theorem k_addR {r : List Wth} {w : Wth} {M : Mm} {Q : QD} (hl : r.length ≤ 1000) (q : Q (runD (r ++ [w])) M) : rAddD (runD r) (.tup [.str w.s]) M Q := by
  refine ⟨?_, ?_⟩
  · refine sl_b ?_
    rw [List.length_map]
    simp only [List.length_nil, List.length_cons]
    omega
  · unfold runD at q
    rw [List.map_append] at q
    exact q
def entD (e : Stand × List Wth) : D := .tup [standD e.1, runD e.2]
structure RInv (h : House) (s0 : Stand) (M0 : Mm) (f l : Addr) (L : List (Stand × List Wth)) (M' : Mm) : Prop where
  le : Le M0 M'
  hf : ∃ o, M' f = some (.dct o (L.map fun e => (e.1, runD e.2)))
  hl : M' l = some (.lst (((s0, []) :: L).map entD))
  nd : (L.map (·.1)).Nodup
  run : ∀ e ∈ L, e.2 ≠ [] ∧ RunTo h s0 e.2 e.1 ∧ e.2.length ≤ L.length
theorem RInv.len {h : House} (o : h.Ok) {s0 : Stand} (so : s0.Ok h) {M0 M' : Mm} {f l : Addr} {L : List (Stand × List Wth)} (R : RInv h s0 M0 f l L M') : L.length ≤ 648 := by
  have := stands_len o R.nd fun s m => by
    obtain ⟨e, he, rfl⟩ := List.mem_map.mp m
    exact (R.run e he).2.1.ok o so
  rwa [List.length_map] at this
theorem RInv.ent {h : House} {s0 : Stand} {M0 M' : Mm} {f l : Addr} {L : List (Stand × List Wth)} (R : RInv h s0 M0 f l L M') : ∀ e ∈ (s0, []) :: L, RunTo h s0 e.2 e.1 ∧ e.2.length ≤ L.length := fun e m => by
  rcases List.mem_cons.mp m with rfl | m
  · exact ⟨.nil, Nat.zero_le _⟩
  · exact (R.run e m).2
theorem kv_keys (L : List (Stand × List Wth)) : (L.map fun e => (e.1, runD e.2)).map (·.1) = L.map (·.1) := by
  rw [List.map_map]
  rfl
section
variable {P : Program} {w : World} {K : PySem.W.Frag} {mg : Str → Option Value} {base : Heap}
abbrev s_reached : Stmt := topS 52
theorem sc_reached : FnScope ["graph", "first", "found", "line", "at", "stand", "run", "row"] ["graph", "first"] (defScope s_reached) := ⟨rfl, rfl, rfl, by decide +kernel, rfl, by decide +kernel, by decide +kernel⟩
def sp_reached : DSp := fun ds M Q _ => ∃ h g o kvs s0, ds = [.obj g, standD s0] ∧ h.Ok ∧ M g = some (.dct o kvs) ∧ Graph h M kvs ∧ Reach h s0 ∧
  ∀ f o' kv M', M f = none → Le M M' → M' f = some (.dct o' kv) → Reached h s0 kv → Q (.obj f) M'
theorem ok_reached {f : Addr} {fd : FuncData} (m_len : mg "len" = none) (F : Fun K "reached" "reached" s_reached f fd) : DFn P w K mg base CX0 1 f fd ["graph", "first"] sp_reached := by
  refine dfn_ok F sc_reached (by walk_at "len") fun cdv A outer s H E hr => ?_
  have hu := hr.units
  refine ⟨_, (dss_cons (ds_par3 (i := 2) (j := 3) (l := 4) (ps_par3 (by rfl) sc_reached.nd rfl rfl rfl (by decide) (by decide) (by decide) rfl rfl rfl (da_cons de_new (da_cons (de_lst (da_cons (de_tup (da_cons (dv 1) (da_cons (de_tup da_nil) da_nil))) da_nil)) (da_cons de_int da_nil))) (by rfl)))
        (dss_cons (ds_while PassesOwn.never (dt_cmp op_ltD (dv 4) (de_callB call_lenD (by rfl) m_len PySem.boot_len (da_cons (dv 3) da_nil)) (nomark _)) (dss_cons (ds_asg (de_ix hu (dv 3) (dv 4) (fun _ _ => rfl)) (dg_tup (is := [5, 6]) (pg_tup rfl (pgs_cons (pg_name (i := 5) sc_reached.nd rfl (Or.inl rfl)) (pgs_cons (pg_name (i := 6) sc_reached.nd rfl (Or.inl rfl)) pgs_nil))) rfl))
        (dss_cons (ds_aug (i := 4) sc_reached.nd rfl (.inl rfl) de_int)
        (dss_one (ds_for PassesOwn.never rfl (di_list (de_ix hu (dv 0) (dv 5) (fun _ _ => rfl))) (dg_name (pg_name (i := 7) sc_reached.nd rfl (Or.inl rfl))) (dss_one (ds_if (dt_cmp (op_ninDD hu) (de_ix hu (dv 7) de_int (fun _ _ => rfl)) (dv 2) (by rfl)) (dss_cons (ds_sub hu (de_op op_addD (dv 6) (de_tup (da_cons (de_ix hu (dv 7) de_int (fun _ _ => rfl)) da_nil))) (dv 2) (de_ix hu (dv 7) de_int (fun _ _ => rfl)))
        (dss_one (ds_expr (de_append (dv 3) (de_tup (da_cons (de_ix hu (dv 7) de_int (fun _ _ => rfl)) (da_cons (de_op op_addD (dv 6) (de_tup (da_cons (de_ix hu (dv 7) de_int (fun _ _ => rfl)) da_nil))) da_nil))))))) dss_nil)))))))
        (dss_one (ds_ret (dv 2))))), ?_⟩
  rintro ds M Q EX ⟨h, g, og, kvs, s0, rfl, o, hg, G, r0, q⟩
  have so := r0.ok o
  walk_at "st"
  intro f hf
  walk_at "st"
  intro l hl
  walk_at "st"
  have hlf : l ≠ f := mneN hl
  have hlM : M l = none := mnone hl
  refine ⟨fun m Γ M' => ∃ L k, RInv h s0 M f l L M' ∧ k ≤ L.length + 1 ∧ (∀ e ∈ ((s0, []) :: L).take k, ∀ w ∈ h.ws, tickS h e.1 w ∈ L.map (·.1)) ∧ m + k + L.length = 2000 ∧ ∃ x5 x6 x7, Γ = [some (.obj g), some (standD s0), some (.obj f), some (.obj l), some (.int (.ofNat k)), x5, x6, x7], ?_, ?_⟩
  · refine ⟨2000, [], 0, ⟨(Le.rfl'.at hf).at hlM, ⟨_, (mset_ne (Ne.symm hlf)).trans mset_same⟩, mset_same, List.nodup_nil, fun _ z => (nomatch z)⟩, Nat.zero_le _, fun _ z => by simp at z, by simp, _, _, _, rfl⟩
  rintro m Γ M' ⟨L, k, R, hk1, hd, hm, x5, x6, x7, rfl⟩
  have hl' := R.hl
  have hL := R.len o so
  walk_at "st"
  rw [List.length_map, List.length_cons]
  by_cases hk : k < L.length + 1
  · refine k_t (decide_eq_true (show (k : Int) < ((L.length + 1 : Nat) : Int) by omega)) ?_
    have e0 := List.getElem?_eq_getElem (show k < ((s0, []) :: L).length from hk)
    generalize (((s0, ([] : List Wth)) :: L)[k]'_) = e at e0
    obtain ⟨s, run⟩ := e
    have me := List.mem_of_getElem? e0
    have hr := R.ent _ me
    have sr : Reach h s := r0.to ⟨run, hr.1⟩
    have hrl : run.length ≤ 648 := Nat.le_trans hr.2 hL
    obtain ⟨rr, eg, hrr⟩ := (G.le R.le).at sr
    have hg' := R.le _ _ hg
    walk_at "st"
    refine k_lix hl' (ix_map e0) (k_ask rfl ?_)
    walk_at "st"
    refine ⟨h.ws.map (rowD h s), fun i Γ' M2 => ∃ L', RInv h s0 M f l L' M2 ∧ (∃ Z, L' = L ++ Z) ∧ (∀ w ∈ h.ws.take i, tickS h s w ∈ L'.map (·.1)) ∧ ∃ x7, Γ' = [some (.obj g), some (standD s0), some (.obj f), some (.obj l), some (.int (.ofNat (k + 1))), some (standD s), some (runD run), x7], fun i Γ' M2 ⟨L', R', _⟩ => ?_, ⟨L, R, ⟨[], by simp⟩, fun w z => by simp at z, _, rfl⟩, fun i d Γ' M2 hi ⟨L', R', ⟨Z, eZ⟩, ht, x7, eΓ⟩ => ?_, fun Γ' M2 ⟨L', R', ⟨Z, eZ⟩, ht, x7, eΓ⟩ => ?_⟩
    · show M2 rr = _
      obtain ⟨r2, eg2, hrr2⟩ := (G.le R'.le).at sr
      rw [eg] at eg2
      cases eg2
      exact hrr2
    · subst eΓ
      rw [List.getElem?_map] at hi
      obtain ⟨w, hw, rfl⟩ := Option.map_eq_some_iff.mp hi
      have hwm := List.mem_of_getElem? hw
      have hL' := R'.len o so
      have hl2 := R'.hl
      obtain ⟨ob, hf2⟩ := R'.hf
      have tk : ∀ x ∈ h.ws.take (i + 1), x ∈ h.ws.take i ∨ x = w := fun x hx => by
        rw [List.take_add_one, hw] at hx
        simpa using hx
      refine k_ask rfl ?_
      unfold rowD
      walk_at "st"
      rw [lk_isSome, kv_keys]
      by_cases ht2 : tickS h s w ∈ L'.map (·.1)
      · rw [decide_eq_true ht2]
        walk_at "st"
        refine ⟨L', R', ⟨Z, eZ⟩, fun x hx => ?_, _, rfl⟩
        rcases tk x hx with hx | rfl
        · exact ht x hx
        · exact ht2
      · rw [decide_eq_false ht2]
        walk_at "st"
        refine k_addR (by omega) ?_
        walk_at "st"
        refine k_rset hf2 (lk_none (by rw [kv_keys]; exact ht2)) (line3 (by rw [List.length_map]; omega)) fun ob' => ?_
        walk_at "st"
        refine k_addR (by omega) ?_
        walk_at "st"
        refine k_rapp ((mset_ne hlf).trans hl2) (line3 (by rw [List.length_map, List.length_cons]; omega)) ?_
        walk_at "st"
        refine ⟨L' ++ [(tickS h s w, run ++ [w])], ⟨(R'.le.at hf).at hlM, ⟨ob', (mset_ne (Ne.symm hlf)).trans (mset_same.trans ?_)⟩, mset_same.trans ?_, ?_, fun e he => ?_⟩, ⟨Z ++ [(tickS h s w, run ++ [w])], by rw [eZ, List.append_assoc]⟩, fun x hx => ?_, _, rfl⟩
        · rw [List.map_append]
          rfl
        · rw [← List.cons_append, List.map_append]
          rfl
        · rw [List.map_append]
          exact List.nodup_append.mpr ⟨R'.nd, by simp, fun a ha b hb => by rw [List.mem_singleton.mp hb]; exact fun e => ht2 (by rw [← show a = tickS h s w from e]; exact ha)⟩
        · rw [List.length_append, List.length_singleton]
          obtain he | he := List.mem_append.mp he
          · have := R'.run e he
            exact ⟨this.1, this.2.1, by omega⟩
          · rw [List.mem_singleton.mp he]
            refine ⟨by simp, hr.1.snoc hwm, ?_⟩
            rw [List.length_append, (List.length_singleton)]
            have h9 : run.length ≤ L.length := hr.2
            have : L.length ≤ L'.length := by rw [eZ, List.length_append]; omega
            omega
        · rw [List.map_append]
          rcases tk x hx with hx | rfl
          · exact List.mem_append_left _ (ht x hx)
          · exact List.mem_append_right _ (List.mem_singleton.mpr rfl)
    · subst eΓ
      rw [List.length_map, List.take_length] at ht
      refine ⟨m - 1 - Z.length, by omega, L', k + 1, R', ?_, fun e he w hw => ?_, ?_, _, _, _, rfl⟩
      · rw [eZ, List.length_append]; omega
      · have e1 : (s0, []) :: L' = ((s0, []) :: L) ++ Z := by rw [eZ]; rfl
        rw [e1, List.take_append_of_le_length (by rw [List.length_cons]; omega), List.take_add_one, e0] at he
        obtain he | he := List.mem_append.mp he
        · have := hd e he w hw
          rw [eZ, List.map_append]
          exact List.mem_append_left _ this
        · have : e = (s, run) := by simpa using he
          rw [this]
          exact ht w hw
      · have hL' := R'.len o so
        have : L'.length = L.length + Z.length := by rw [eZ, List.length_append]
        omega
  · refine k_f (decide_eq_false (show ¬ (k : Int) < ((L.length + 1 : Nat) : Int) by omega)) ?_
    walk_at "st"
    obtain ⟨ob, hf'⟩ := R.hf
    rw [List.take_of_length_le (by rw [List.length_cons]; omega)] at hd
    refine fin.same (q f ob _ M' hf R.le hf' ⟨fun s hs => ?_, fun p hp => ?_⟩)
    · unfold keysOf
      rw [kv_keys]
      exact hs.ind (fun w hw => hd (s0, []) List.mem_cons_self w hw) fun x hx w hw => by
        obtain ⟨e, he, rfl⟩ := List.mem_map.mp hx
        exact hd e (List.mem_cons_of_mem _ he) w hw
    · obtain ⟨e, he, rfl⟩ := List.mem_map.mp hp
      have := R.run e he
      exact ⟨e.2, rfl, this.1, this.2.1, by omega⟩

abbrev s_start_to : Stmt := topS 56
theorem sc_start_to : FnScope ["house", "stand", "line", "seen", "at", "here", "start", "run", "weather"] ["house", "stand"] (defScope s_start_to) := ⟨rfl, rfl, rfl, by decide +kernel, rfl, by decide +kernel, by decide +kernel⟩
def entT (e : Stand × St0 × List Wth) : D := .tup [standD e.1, startDt e.2.1, runD e.2.2]
def sLine (h : House) (L : List (Stand × St0 × List Wth)) : List (Stand × St0 × List Wth) := ((starts h).map fun s => (begin0 s, s, [])) ++ L.flatMap fun e => h.ws.map fun w => (tickS h e.1 w, e.2.1, e.2.2 ++ [w])
theorem sLine_snoc (h : House) (L : List (Stand × St0 × List Wth)) (e : Stand × St0 × List Wth) : sLine h (L ++ [e]) = sLine h L ++ h.ws.map fun w => (tickS h e.1 w, e.2.1, e.2.2 ++ [w]) := by
  unfold sLine
  rw [List.flatMap_append, List.append_assoc]
  simp
theorem sLine_len {h : House} (o : h.Ok) (L : List (Stand × St0 × List Wth)) : (sLine h L).length ≤ 36 + 2 * L.length := by
  unfold sLine
  rw [List.length_append, List.length_map]
  have h1 := starts_len o
  have : (L.flatMap fun e => h.ws.map fun w => (tickS h e.1 w, e.2.1, e.2.2 ++ [w])).length ≤ 2 * L.length := by
    induction L with
    | nil => simp
    | cons s L ih =>
      rw [List.flatMap_cons, List.length_append, List.length_cons, List.length_map]
      have := ws_len o
      omega
  omega
def EOk0 (h : House) (n : Nat) (e : Stand × St0 × List Wth) : Prop := e.2.1 ∈ starts h ∧ RunTo h (begin0 e.2.1) e.2.2 e.1 ∧ e.2.2.length ≤ n
structure SInv (h : House) (t : Stand) (M0 : Mm) (f l : Addr) (L : List (Stand × St0 × List Wth)) (k : Nat) (M' : Mm) : Prop where
  le : Le M0 M'
  hf : ∃ o, M' f = some (.dct o (L.map fun e => (e.1, .bl true)))
  hl : M' l = some (.lst ((sLine h L).map entT))
  nd : (L.map (·.1)).Nodup
  run : ∀ e ∈ L, EOk0 h L.length e
  no : t ∉ L.map (·.1)
  kk : k ≤ (sLine h L).length
  done : ∀ e ∈ (sLine h L).take k, e.1 ∈ L.map (·.1)
theorem SInv.line {h : House} {t : Stand} {M0 M' : Mm} {f l : Addr} {L : List (Stand × St0 × List Wth)} {k : Nat} (S : SInv h t M0 f l L k M') : ∀ e ∈ sLine h L, EOk0 h (L.length + 1) e := fun e m => by
  rcases List.mem_append.mp m with m | m
  · obtain ⟨s, hs, rfl⟩ := List.mem_map.mp m
    exact ⟨hs, .nil, Nat.zero_le _⟩
  · obtain ⟨e', he, m⟩ := List.mem_flatMap.mp m
    obtain ⟨w, hw, rfl⟩ := List.mem_map.mp m
    have r := S.run e' he
    refine ⟨r.1, r.2.1.snoc hw, ?_⟩
    rw [List.length_append, (List.length_singleton)]
    have := r.2.2
    omega
theorem SInv.len {h : House} (o : h.Ok) {t : Stand} {M0 M' : Mm} {f l : Addr} {L : List (Stand × St0 × List Wth)} {k : Nat} (S : SInv h t M0 f l L k M') : L.length ≤ 648 := by
  have := stands_len o S.nd fun s m => by
    obtain ⟨e, he, rfl⟩ := List.mem_map.mp m
    have r := S.run e he
    exact r.2.1.ok o (begin0_ok o r.1)
  rwa [List.length_map] at this
theorem SInv.end {h : House} {t : Stand} {M0 M' : Mm} {f l : Addr} {L : List (Stand × St0 × List Wth)} {k : Nat} (S : SInv h t M0 f l L k M') (hk : (sLine h L).length ≤ k) (r : Reach h t) : False := by
  have d := S.done
  rw [List.take_of_length_le hk] at d
  refine S.no (r.ind (fun u m => d _ (List.mem_append_left _ (List.mem_map.mpr ⟨u, m, rfl⟩))) fun s hs w hw => ?_)
  obtain ⟨e, he, rfl⟩ := List.mem_map.mp hs
  exact d (tickS h e.1 w, e.2.1, e.2.2 ++ [w]) (List.mem_append_right _ (List.mem_flatMap.mpr ⟨e, he, List.mem_map.mpr ⟨w, hw, rfl⟩⟩))
theorem kv_keysT (L : List (Stand × St0 × List Wth)) : (L.map fun e => (e.1, D.bl true)).map (·.1) = L.map (·.1) := by
  rw [List.map_map]
  rfl
def sp_start_to : DSp := fun ds M Q _ => ∃ h t, ds = [houseD h, standD t] ∧ h.Ok ∧ Reach h t ∧ ∀ s r, s ∈ starts h → RunTo h (begin0 s) r t → r.length ≤ 1000 → Q (.tup [startDt s, runD r]) M
theorem ok_start_to {f : Addr} {fd : FuncData} (c_begun : Cal P w K mg base CX0 "begun" 2 ["house", "start"] sp_begun) (c_starts_of : Cal P w K mg base CX0 "starts_of" 4 ["house"] sp_starts_of) (c_step : Cal P w K mg base CX0 "step" 4 ["house", "stand", "weather"] sp_step) (m_len : mg "len" = none) (F : Fun K "start_to" "start_to" s_start_to f fd) : DFn P w K mg base CX0 5 f fd ["house", "stand"] sp_start_to := by
  refine dfn_ok F sc_start_to (by walk_at "len") fun cdv A outer s H E hr => ?_
  have hu := hr.units
  refine ⟨_, (dss_cons (ds_par3 (i := 2) (j := 3) (l := 4) (ps_par3 (by rfl) sc_start_to.nd rfl rfl rfl (by decide) (by decide) (by decide) rfl rfl rfl (da_cons (de_lc (own := [("start", 6)]) rfl sc_start_to.nd (di_list (de_cal c_starts_of (hr.mono (by decide)) (by rfl) pass0 (da_cons (dv 0) da_nil))) (blkOk_by (own := [("start", 6)]) (N := ["house", "stand", "line", "seen", "at", "here", "start", "run", "weather"]) (sc := defScope s_start_to) (by decide +kernel)) (fun _ _ _ _ _ => (dg_name (pg_name (i := 6) sc_start_to.nd rfl (Or.inl rfl)))) (fun _ _ _ _ _ => dts_nil) (fun _ _ _ _ _ => (de_tup (da_cons (de_cal c_begun (hr.mono (by decide)) (by rfl) pass0 (da_cons (dv 0) (da_cons (dv 6) da_nil))) (da_cons (dv 6) (da_cons (de_tup da_nil) da_nil)))))) (da_cons de_new (da_cons de_int da_nil))) (by rfl)))
        (dss_cons (ds_while PassesOwn.never (dt_cmp op_ltD (dv 4) (de_callB call_lenD (by rfl) m_len PySem.boot_len (da_cons (dv 2) da_nil)) (nomark _)) (dss_cons (ds_asg (de_ix hu (dv 2) (dv 4) (fun _ _ => rfl)) (dg_tup (is := [5, 6, 7]) (pg_tup rfl (pgs_cons (pg_name (i := 5) sc_start_to.nd rfl (Or.inr rfl)) (pgs_cons (pg_name (i := 6) sc_start_to.nd rfl (Or.inr rfl)) (pgs_cons (pg_name (i := 7) sc_start_to.nd rfl (Or.inr rfl)) pgs_nil)))) rfl))
        (dss_cons (ds_aug (i := 4) sc_start_to.nd rfl (.inl rfl) de_int)
        (dss_cons (ds_if (dt_cmp (op_eqDD hu) (dv 5) (dv 1) (nomark _)) (dss_one (ds_ret (de_tup (da_cons (dv 6) (da_cons (dv 7) da_nil))))) dss_nil)
        (dss_one (ds_if (dt_cmp (op_ninDD hu) (dv 5) (dv 3) (by rfl)) (dss_cons (ds_sub hu de_bl (dv 3) (dv 5))
        (dss_one (ds_aug (i := 2) sc_start_to.nd rfl (.inl rfl) (de_lc (own := [("weather", 8)]) rfl sc_start_to.nd (di_tup (de_ix hu (dv 0) de_int (fun _ _ => rfl))) (blkOk_by (own := [("weather", 8)]) (N := ["house", "stand", "line", "seen", "at", "here", "start", "run", "weather"]) (sc := defScope s_start_to) (by decide +kernel)) (fun _ _ _ _ _ => (dg_name (pg_name (i := 8) sc_start_to.nd rfl (Or.inl rfl)))) (fun _ _ _ _ _ => dts_nil) (fun _ _ _ _ _ => (de_tup (da_cons (de_ix hu (de_cal c_step (hr.mono (by decide)) (by rfl) pass0 (da_cons (dv 0) (da_cons (dv 5) (da_cons (dv 8) da_nil)))) de_int (fun _ _ => rfl)) (da_cons (dv 6) (da_cons (de_op op_addD (dv 7) (de_tup (da_cons (dv 8) da_nil))) da_nil))))))))) dss_nil))))))
        (dss_one (ds_ret de_non)))), ?_⟩
  rintro ds M Q EX ⟨h, t, rfl, o, rt, q⟩
  walk_at "st"
  refine ⟨h, rfl, o, fun a ha => ?_⟩
  walk_at "st"
  refine lc_mapS (starts h) startDt (fun s => entT (begin0 s, s, [])) (srcL_ok mset_same) (line3 (Nat.le_trans (starts_len o) (by decide))) (fun b acc s hb hs R hR => ?_) fun l hl => ?_
  · refine k_ask rfl ⟨by simp, ?_⟩
    walk_at "st"
    refine ⟨_, s, rfl, ?_⟩
    walk_at "st"
    exact hR
  walk_at "st"
  intro f hf
  walk_at "st"
  have hfl : f ≠ l := mneN hf
  have hlM : M l = none := mnone hl
  have haM : M a = none := ha
  have hfM : M f = none := mnone (mnone hf)
  refine ⟨fun m Γ M' => ∃ L k, SInv h t M f l L k M' ∧ m + 3 * L.length + k = 3 * 700 + (sLine h L).length ∧ ∃ x5 x6 x7 x8, Γ = [some (houseD h), some (standD t), some (.obj l), some (.obj f), some (.int (.ofNat k)), x5, x6, x7, x8], ?_, ?_⟩
  · refine ⟨3 * 700 + (sLine h []).length, [], 0, ⟨((Le.rfl'.at haM).at hlM).at hfM, ⟨_, mset_same⟩, (mset_ne (Ne.symm hfl)).trans ?_, List.nodup_nil, fun _ z => (nomatch z), fun z => (nomatch z), Nat.zero_le _, fun _ z => by simp at z⟩, by simp, _, _, _, _, rfl⟩
    rw [mset_same]
    unfold sLine
    simp [Function.comp_def, List.map_map]
  rintro m Γ M' ⟨L, k, S, hm, x5, x6, x7, x8, rfl⟩
  have hl' := S.hl
  have hL := S.len o
  walk_at "st"
  rw [List.length_map]
  by_cases hk : k < (sLine h L).length
  · refine k_t (decide_eq_true (show (k : Int) < ((sLine h L).length : Int) by omega)) ?_
    have e0 := List.getElem?_eq_getElem hk
    generalize (sLine h L)[k] = e at e0
    have me := List.mem_of_getElem? e0
    have hr := S.line _ me
    obtain ⟨s, u, run⟩ := e
    have so := hr.2.1.ok o (begin0_ok o hr.1)
    have hrl : run.length ≤ L.length + 1 := hr.2.2
    obtain ⟨ob, hf'⟩ := S.hf
    walk_at "st"
    refine k_lix hl' (ix_map e0) (k_ask rfl ?_)
    walk_at "st"
    by_cases hst : s = t
    · subst hst
      refine k_t (decide_eq_true rfl) ?_
      walk_at "st"
      exact ⟨M, S.le, q u run hr.1 hr.2.1 (by omega)⟩
    · refine k_f (decide_eq_false hst) ?_
      walk_at "st"
      rw [lk_isSome, kv_keysT]
      have tk : ∀ (L1 : List (Stand × St0 × List Wth)), (∃ z, sLine h L1 = sLine h L ++ z) → (∀ x ∈ L.map (·.1), x ∈ L1.map (·.1)) → s ∈ L1.map (·.1) → ∀ x ∈ (sLine h L1).take (k + 1), x.1 ∈ L1.map (·.1) := by
        rintro L1 ⟨z, e1⟩ sub hs x hx
        rw [e1, List.take_append_of_le_length (by omega), List.take_add_one, e0] at hx
        obtain hx | hx := List.mem_append.mp hx
        · exact sub _ (S.done x hx)
        · simp at hx; rw [hx]; exact hs
      by_cases hs : s ∈ L.map (·.1)
      · rw [decide_eq_true hs]
        walk_at "st"
        exact ⟨m - 1, by omega, L, k + 1, ⟨S.le, S.hf, S.hl, S.nd, S.run, S.no, by omega, tk L ⟨[], by simp⟩ (fun _ z => z) hs⟩, by omega, _, _, _, _, rfl⟩
      · rw [decide_eq_false hs]
        walk_at "st"
        refine k_rset hf' (lk_none (by rw [kv_keysT]; exact hs)) (line3 (by rw [List.length_map]; omega)) fun ob' => ?_
        walk_at "st"
        refine lc_mapS h.ws (fun w => .str w.s) (fun w => entT (tickS h s w, u, run ++ [w])) srcC_ok (line3 (Nat.le_trans (ws_len o) (by decide))) (fun b acc w hb hw R hR => ?_) fun b hb => ?_
        · refine k_ask rfl ⟨by simp, ?_⟩
          walk_at "st"
          refine ⟨h, s, w, rfl, o, so, ?_⟩
          walk_at "st"
          refine k_addR (by omega) ?_
          walk_at "st"
          exact hR
        have hb' : M' b = none := mnone hb
        have hbl : b ≠ l := Ne.symm (mne hl' hb')
        have hbf : b ≠ f := mneN hb
        have hwl := ws_len o
        have hgl := sLine_len o L
        refine k_iaddl ((mset_ne (Ne.symm hbl)).trans ((mset_ne (Ne.symm hfl)).trans hl')) mset_same (sl_b ?_) ?_
        · rw [List.length_map, List.length_map]
          omega
        have eqn : (sLine h L).map entT ++ h.ws.map (fun w => entT (tickS h s w, u, run ++ [w])) = (sLine h (L ++ [(s, u, run)])).map entT := by
          rw [sLine_snoc, List.map_append, List.map_map]
          rfl
        rw [eqn]
        refine ⟨m - 4 + h.ws.length, by omega, L ++ [(s, u, run)], k + 1, ⟨?_, ⟨ob', ?_⟩, mset_same, ?_, fun e he => ?_, ?_, ?_, tk _ ⟨_, sLine_snoc h L _⟩ (fun _ z => ?_) ?_⟩, ?_, _, _, _, _, rfl⟩
        · exact ((S.le.at hfM).at (S.le.free hb')).at hlM
        · rw [mset_ne hfl, mset_ne (Ne.symm hbf), mset_same, List.map_append]
          rfl
        · rw [List.map_append]
          exact List.nodup_append.mpr ⟨S.nd, by simp, fun a ha b hb => by rw [List.mem_singleton.mp hb]; exact fun e => hs (by rw [← show a = s from e]; exact ha)⟩
        · rw [List.length_append, List.length_singleton]
          obtain he | he := List.mem_append.mp he
          · have r := S.run e he
            exact ⟨r.1, r.2.1, Nat.le_succ_of_le r.2.2⟩
          · rw [List.mem_singleton.mp he]
            exact ⟨hr.1, hr.2.1, hrl⟩
        · rw [List.map_append]
          intro z
          rcases List.mem_append.mp z with z | z
          · exact S.no z
          · exact hst (List.mem_singleton.mp z).symm
        · rw [sLine_snoc, List.length_append]; omega
        · rw [List.map_append]; exact List.mem_append_left _ z
        · rw [List.map_append]; exact List.mem_append_right _ (List.mem_singleton.mpr rfl)
        · rw [sLine_snoc, List.length_append, List.length_append, List.length_singleton, List.length_map]
          omega
  · exact (S.end (by omega) rt).elim
end
end L3

/-! Rounds, and what the two defs tell. -/
namespace L3
open PySem PySem.Spec PyProof.Rows L2
def rGet (x : D) (tb : DTE) (Γ : Ge) (M1 : Mm) (Q : QD) : Prop := match x with
  | .obj a => match M1 a with
    | some (.dct ob kvs) => tb Γ M1 fun y M2 => M2 a = some (.dct ob kvs) ∧ ask (toStand y) fun st => Q ((lk kvs st).getD .non) M2
    | _ => False
  | _ => False
theorem k_get {ta tb : DTE} {Γ : Ge} {M : Mm} {Q : QD} (h : ta Γ M fun x M1 => rGet x tb Γ M1 Q) : dGet ta tb Γ M Q := h
theorem k_rget {tb : DTE} {Γ : Ge} {M : Mm} {Q : QD} {a : Addr} {ob : Obj} {kvs : List (Stand × D)} (h0 : M a = some (.dct ob kvs)) (h : tb Γ M fun y M2 => M2 a = some (.dct ob kvs) ∧ ask (toStand y) fun st => Q ((lk kvs st).getD .non) M2) : rGet (.obj a) tb Γ M Q := by
  unfold rGet
  simp only [h0]
  exact h
def dcBody (src : Src) (as : D → Option Sets) (tt : DTT) (tk tv : DTE) (vs : List Nat) (Γ : Ge) (M1 : Mm) (Q : QD) : Prop := ∀ a, M1 a = none → ∃ (ds : List D) (W : Nat → Mm → Prop), (∀ i M', W i M' → src M' ds) ∧ W 0 (mset M1 a (.dct L3.newDict [])) ∧
  (∀ i d M', ds[i]? = some d → W i M' → ask (as d) fun sets => (∀ p ∈ sets, p.1 ∈ vs) ∧ tt (setG (wipeG Γ vs) sets) M' fun b M2 => if b = true then tk (setG (wipeG Γ vs) sets) M2 fun y M3 => tv (setG (wipeG Γ vs) sets) M3 fun z M4 => ask (toStand y) fun st => rSet (.obj a) (standD st) z M4 (W (i + 1))
    else W (i + 1) M2) ∧ ∀ M', W ds.length M' → Q (.obj a) M'
theorem k_dc {ti : DTI} {as : D → Option Sets} {tt : DTT} {tk tv : DTE} {vs : List Nat} {Γ : Ge} {M : Mm} {Q : QD} (h : ti Γ M fun src M1 => dcBody src as tt tk tv vs Γ M1 Q) : dDc ti as tt tk tv vs Γ M Q := h
local macro_rules | `(tactic| walk_at "mem") => `(tactic| first | assumption | exact mset_same | (refine (mset_ne ?_).trans ?_ <;> first | assumption | exact Ne.symm (by assumption) | exact mset_same | (refine (mset_ne ?_).trans ?_ <;> first | assumption | exact Ne.symm (by assumption) | exact mset_same)))
local macro_rules | `(tactic| walk_at "line") => `(tactic| first | decide | (simp only [List.length_cons, List.length_nil, List.length_map, List.length_append]; first | decide | omega) | (refine sl_b ?_; simp only [List.length_cons, List.length_nil, List.length_map, List.length_append]; first | decide | omega))
local macro_rules | `(tactic| walk_at "s1") => `(tactic| first
  | ((with_reducible refine' k_var ?g0 ?_); (case g0 => exact rfl))
  | ((with_reducible refine' k_seqN ?g0 ?_); (case g0 => (try simp only [startD, g_cons, g_nil, List.map_cons, List.map_nil, List.length_cons, List.length_nil, Nat.reduceAdd, Nat.reduceSub, List.replicate_succ, List.replicate_zero, List.cons_append, List.nil_append, List.set_cons_zero, List.set_cons_succ, List.zip_cons_cons, List.zip_nil_right, List.zip_nil_left]); try exact rfl))
  | ((with_reducible refine' k_retN ?g0 ?_); (case g0 => (try simp only [startD, g_cons, g_nil, List.map_cons, List.map_nil, List.length_cons, List.length_nil, Nat.reduceAdd, Nat.reduceSub, List.replicate_succ, List.replicate_zero, List.cons_append, List.nil_append, List.set_cons_zero, List.set_cons_succ, List.zip_cons_cons, List.zip_nil_right, List.zip_nil_left]); try exact rfl))
  | (with_reducible refine k_nedev ?_)
  | (with_reducible refine k_ifS ?_)
  | (with_reducible refine k_next ?_)
  | (with_reducible refine k_drop ?_)
  | (with_reducible refine k_set ?_)
  | (with_reducible refine k_asg ?_)
  | (with_reducible refine k_sub ?_)
  | (with_reducible refine k_par ?_)
  | (with_reducible refine k_asP ?_)
  | (with_reducible refine k_par3 ?_)
  | (with_reducible refine k_asP3 ?_)
  | (with_reducible refine k_aug ?_)
  | (with_reducible refine k_for ?_)
  | (with_reducible refine k_B ?_)
  | (with_reducible refine k_asB ?_)
  | (with_reducible refine k_and ?_)
  | (with_reducible refine k_or ?_)
  | (with_reducible refine k_not ?_)
  | (with_reducible refine k_andV ?_)
  | (with_reducible refine k_orV ?_)
  | (with_reducible refine k_notV ?_)
  | (with_reducible refine k_chain ?_)
  | (with_reducible refine k_yes ?_)
  | (with_reducible refine k_if ?_)
  | (with_reducible refine k_c ?_)
  | (with_reducible refine k_op ?_)
  | (with_reducible refine k_nil ?_)
  | (with_reducible refine k_cons ?_)
  | (with_reducible refine k_tup ?_)
  | (with_reducible refine k_lst ?_)
  | (with_reducible refine k_call ?_)
  | (with_reducible refine k_fn ?_)
  | (with_reducible refine k_sl ?_)
  | (with_reducible refine k_app ?_)
  | (with_reducible refine k_pop ?_)
  | (with_reducible refine k_it ?_)
  | (with_reducible refine k_ik ?_)
  | (with_reducible refine k_il ?_)
  | (with_reducible refine k_ir ?_)
  | (with_reducible refine k_lc ?_)
  | (with_reducible refine k_addi ?_)
  | (with_reducible refine k_iaddi ?_)
  | (with_reducible refine k_eqi ?_)
  | (with_reducible refine k_nei ?_)
  | (with_reducible refine k_eqs ?_)
  | (with_reducible refine k_nes ?_)
  | (with_reducible refine k_eqb ?_)
  | (with_reducible refine k_neb ?_)
  | (with_reducible refine k_eqst ?_)
  | (with_reducible refine k_isN ?_)
  | (with_reducible refine k_notN ?_)
  | (with_reducible refine k_rsls ?_)
  | (with_reducible refine k_rsl ?_)
  | (with_reducible refine k_lent ?_)
  | (with_reducible refine k_i2 ?_)
  | (with_reducible refine k_toi ?_)
  | (with_reducible refine k_tob ?_)
  | (with_reducible refine k_itw ?_)
  | (with_reducible refine k_itt ?_)
  | (with_reducible refine k_lc2 ?_)
  | (with_reducible refine k_get ?_)
  | (with_reducible refine k_dc ?_)
  | ((with_reducible refine' k_ask ?g0 ?_); (case g0 => exact rfl))
  | ((with_reducible refine' k_ix ?g0 ?_); (case g0 => exact rfl))
  | ((with_reducible refine' k_lix ?g0 ?g1 ?_); (case g0 => walk_at "mem"); (case g1 => exact rfl))
  | ((with_reducible refine' k_int ?g0 ?_); (case g0 => first | exact trivial | exact cm2 | (show (0 : Int) < _; omega) | (show CMul _ _; exact .inl ⟨by omega, by omega⟩) | (show CMul _ _; exact .inr ⟨by omega, by omega⟩) | (show CDiv _ _; exact ⟨by omega, by omega⟩) | exact ⟨by decide, by decide⟩))
  | ((with_reducible refine' k_addt ?g0 ?_); (case g0 => walk_at "line"))
  | ((with_reducible refine' sl_s ?g0 ?_); (case g0 => walk_at "line"))
  | ((with_reducible refine' k_inT ?g0 ?g1 ?_); (case g0 => exact rfl); (case g1 => exact rfl))
  | ((with_reducible refine' k_ninT ?g0 ?g1 ?_); (case g0 => exact rfl); (case g1 => exact rfl))
  | ((with_reducible refine' k_inL ?g0 ?g1 ?g2 ?_); (case g0 => walk_at "mem"); (case g1 => exact rfl); (case g2 => exact rfl))
  | ((with_reducible refine' k_ninL ?g0 ?g1 ?g2 ?_); (case g0 => walk_at "mem"); (case g1 => exact rfl); (case g2 => exact rfl))
  | ((with_reducible refine' k_lenl ?g0 ?_); (case g0 => walk_at "mem"))
  | ((with_reducible refine' k_ninD ?g0 ?_); (case g0 => walk_at "mem"))
  | ((with_reducible refine' k_inD ?g0 ?_); (case g0 => walk_at "mem"))
  | ((with_reducible refine' k_rik ?g0 ?_); (case g0 => walk_at "mem"))
  | ((with_reducible refine' k_ril ?g0 ?_); (case g0 => walk_at "mem"))
  | ((with_reducible refine' k_isi ?g0 ?g1 ?_); (case g0 => exact rfl); (case g1 => exact rfl))
  | ((with_reducible refine' k_isl ?g0 ?_); (case g0 => walk_at "mem"))
  | ((with_reducible refine' k_rget ?g0 ?_); (case g0 => walk_at "mem"))
  | ((with_reducible refine' k_dix ?g0 ?g1 ?_); (case g0 => walk_at "mem"); (case g1 => assumption))
  | ((with_reducible refine' k_iaddl ?g0 ?g1 ?g2 ?_); (case g0 => walk_at "mem"); (case g1 => walk_at "mem"); (case g2 => walk_at "line"))
  | ((with_reducible refine' k_addl ?g0 ?g1 ?g2 ?_); (case g0 => walk_at "mem"); (case g1 => walk_at "mem"); (case g2 => walk_at "line"))
  | ((with_reducible refine' k_rall ?g0 ?g1 ?_); (case g0 => walk_at "mem"); (case g1 => exact rfl))
  | ((with_reducible refine' k_tot ?g0 ?_); (case g0 => walk_at "mem"))
  | ((with_reducible refine' k_t ?g0 ?_); (case g0 => exact rfl))
  | ((with_reducible refine' k_f ?g0 ?_); (case g0 => exact rfl)))
local macro_rules | `(tactic| walk_at "st") => `(tactic| (repeat (walk_at "s1")); try dsimp only)
local macro_rules | `(tactic| walk_at "c") => `(tactic| try simp only [inV_two, d_no, d_on, d_off, d_open, d_shut, d_no', d_on', d_off', d_open', d_shut', w_cold, w_cold', v_heat, reduceCtorEq, decide_true, decide_false, Bool.or_false, Bool.false_or, Bool.or_true, Bool.true_or, Bool.not_true, Bool.not_false, Bool.false_eq_true, Bool.true_eq_false, if_true, if_false, reduceIte])
local macro_rules | `(tactic| walk_at "len") => `(tactic| (intro ds M Q EX h; repeat (obtain ⟨x, h⟩ := h; try (subst x; exact rfl))))
def setsB : Dev → Deed → Bool
  | .heater, d => decide (d = .on) || decide (d = .off)
  | .window, d => decide (d = .opn) || decide (d = .sht)
def sets (h : House) (s : Stand) (who : Bool) (dev : Dev) : Bool := setsB dev (bif who then deed1 h s else deed0 h s)
/-- a round's half: on from a tick of s, by a tick at which the second sets -/
def Rnd (h : House) (s : Stand) (w : Wth) (dev : Dev) : Prop := ∃ o w2, w2 ∈ h.ws ∧ sets h o true dev = true ∧ RT h (tickS h s w) o ∧ RT h (tickS h o w2) s
def Fight (h : House) (dev : Dev) : Prop := ∃ s w, Reach h s ∧ w ∈ h.ws ∧ sets h s false dev = true ∧ Rnd h s w dev
def seenB (h : House) (dev : Dev) (who : Bool) : Stand → List Wth → Bool
  | _, [] => false
  | s, w :: r => sets h s who dev || seenB h dev who (tickS h s w) r
theorem seenB_app (h : House) (dev : Dev) (who : Bool) : ∀ (a b : List Wth) (s : Stand), seenB h dev who s (a ++ b) = (seenB h dev who s a || seenB h dev who (walkS h s a) b)
  | [], b, s => by simp [seenB, walkS]
  | w :: a, b, s => by
    show (sets h s who dev || seenB h dev who (tickS h s w) (a ++ b)) = _
    rw [seenB_app h dev who a b, ← Bool.or_assoc]
    rfl
structure Ring (h : House) (s : Stand) (dev : Dev) (r : List Wth) : Prop where
  run : RunTo h s r s
  ne : r ≠ []
  s0 : seenB h dev false s r = true
  s1 : seenB h dev true s r = true
  len : r.length ≤ 2000
def optR : Option (List Wth) → D
  | none => .non
  | some r => runD r
structure Ways (h : House) (M : Mm) (kvs : List (Stand × D)) : Prop where
  mem : ∀ s, Reach h s → s ∈ keysOf kvs
  way : ∀ p ∈ kvs, ∃ a ob kv, p.2 = .obj a ∧ M a = some (.dct ob kv) ∧ Reached h p.1 kv
theorem Ways.at {h : House} {M : Mm} {kvs : List (Stand × D)} (g : Ways h M kvs) {s : Stand} (k : Reach h s) : ∃ a ob kv, lk kvs s = some (.obj a) ∧ M a = some (.dct ob kv) ∧ Reached h s kv := by
  obtain ⟨d, e, m⟩ := lk_key (g.mem s k)
  obtain ⟨a, ob, kv, e1, q, r⟩ := g.way _ m
  have e1 : d = .obj a := e1
  subst e1
  exact ⟨a, ob, kv, e, q, r⟩
theorem Ways.le {h : House} {M M' : Mm} {kvs : List (Stand × D)} (g : Ways h M kvs) (l : Le M M') : Ways h M' kvs := ⟨g.mem, fun p m => let ⟨a, ob, kv, e, q, r⟩ := g.way p m; ⟨a, ob, kv, e, l _ _ q, r⟩⟩
theorem Reached.get {h : House} {s t : Stand} {kv : List (Stand × D)} (R : Reached h s kv) : (lk kv t = none ∧ ¬ RP h s t) ∨ ∃ r, lk kv t = some (runD r) ∧ RunTo h s r t ∧ r ≠ [] ∧ r.length ≤ 648 := by
  cases q : lk kv t with
  | none =>
    refine .inl ⟨rfl, fun rp => ?_⟩
    obtain ⟨d, e, _⟩ := lk_key (R.all t rp)
    rw [q] at e
    cases e
  | some d =>
    obtain ⟨r, e, h1, h2, h3⟩ := R.run _ (lk_mem q)
    have e : d = runD r := e
    subst e
    exact .inr ⟨r, rfl, h2, h1, h3⟩
theorem k_way {h : House} {tx ty tz tk : DTE} {Γ : Ge} {M : Mm} {Q : QD} {u v a b : Stand} {p : Addr} {ob : Obj} {kv : List (Stand × D)} (hx : ∀ R : QD, R (standD u) M → tx Γ M R) (hy : ∀ R : QD, R (standD v) M → ty Γ M R) (hz : ∀ R : QD, R (.obj p) M → tz Γ M R) (hk : ∀ R : QD, R (standD b) M → tk Γ M R)
    (he : u = v ↔ a = b) (mp : M p = some (.dct ob kv)) (R1 : Reached h a kv) (q : ∀ x : Option (List Wth), (x = none → ¬ RT h a b) → (∀ r, x = some r → RunTo h a r b ∧ r.length ≤ 648) → Q (optR x) M) :
    dIf (dB (dOp (rEqD false) tx ty)) (dTup dNil) (dGet tz tk) Γ M Q := by
  refine k_if (k_B (k_op (hx _ (hy _ (k_eqst (k_asB ?_))))))
  by_cases e : u = v
  · refine k_t (decide_eq_true e) (k_tup (k_nil (sl_s (by decide) ?_)))
    refine q (some []) (fun z => nomatch z) fun r z => ?_
    cases z
    rw [← he.mp e]
    exact ⟨.nil, Nat.zero_le _⟩
  · refine k_f (decide_eq_false e) (k_get (hz _ (k_rget mp (hk _ ⟨mp, k_ask (toStand_standD b) ?_⟩))))
    rcases R1.get (t := b) with ⟨z, n⟩ | ⟨r, z, h1, h2, h3⟩
    · rw [z]
      refine q none (fun _ rt => ?_) fun r z => nomatch z
      rcases rt.or with c | c
      · exact e (he.mpr c)
      · exact n c
    · rw [z]
      refine q (some r) (fun z => nomatch z) fun r2 z2 => ?_
      cases z2
      exact ⟨h1, h3⟩
section
variable {P : Program} {w : World} {K : PySem.W.Frag} {mg : Str → Option Value} {base : Heap}
abbrev s_sets_device : Stmt := topS 53
theorem sc_sets_device : FnScope ["row", "who", "device", "deed"] ["row", "who", "device"] (defScope s_sets_device) := ⟨rfl, rfl, rfl, by decide +kernel, rfl, by decide +kernel, by decide +kernel⟩
def sp_sets_device : DSp := fun ds M Q _ => ∃ h s w who dev, ds = [rowD h s w, .int (whoI who), .str (Dev.s dev)] ∧ Q (.bl (sets h s who dev)) M
theorem ok_sets_device {f : Addr} {fd : FuncData} (F : Fun K "sets_device" "sets_device" s_sets_device f fd) : DFn P w K mg base CX0 1 f fd ["row", "who", "device"] sp_sets_device := by
  refine dfn_ok F sc_sets_device (by walk_at "len") fun cdv A outer s H E hr => ?_
  have hu := hr.units
  refine ⟨_, (dss_cons (ds_set (i := 3) sc_sets_device.nd rfl (.inl rfl) (de_ix hu (de_ix hu (dv 0) de_int (fun _ _ => rfl)) (dv 1) (fun _ _ => rfl)))
        (dss_one (ds_ret (de_cmp (op_inDD hu) (dv 3) (de_if (dt_cmp (op_eqDD hu) (dv 2) de_str (nomark _)) (de_tup (da_cons de_str (da_cons de_str da_nil))) (de_tup (da_cons de_str (da_cons de_str da_nil)))) (by rfl))))), ?_⟩
  rintro ds M Q EX ⟨h, s, w, who, dev, rfl, q⟩
  have q := fin.same q
  unfold rowD pairD
  unfold sets at q
  cases who <;> cases dev <;> (walk_at "st"; walk_at "c"; walk_at "st"; walk_at "c"; exact q)

abbrev s_round_by : Stmt := topS 55
theorem sc_round_by : FnScope ["graph", "ways", "stand", "row", "device", "other", "second", "there", "back"] ["graph", "ways", "stand", "row", "device"] (defScope s_round_by) := ⟨rfl, rfl, rfl, by decide +kernel, rfl, by decide +kernel, by decide +kernel⟩
def sp_round_by : DSp := fun ds M Q _ => ∃ h g og kvs wy ow kvw s w dev, ds = [.obj g, .obj wy, standD s, rowD h s w, .str (Dev.s dev)] ∧ h.Ok ∧ M g = some (.dct og kvs) ∧ Graph h M kvs ∧ M wy = some (.dct ow kvw) ∧ Ways h M kvw ∧ Reach h s ∧ w ∈ h.ws ∧ sets h s false dev = true ∧
  ∀ res : Option (List Wth), (res = none → ¬ Rnd h s w dev) → (∀ r, res = some r → Ring h s dev r) → Q (optR res) M
theorem ok_round_by {f : Addr} {fd : FuncData} (c_sets_device : Cal P w K mg base CX0 "sets_device" 1 ["row", "who", "device"] sp_sets_device) (F : Fun K "round_by" "round_by" s_round_by f fd) : DFn P w K mg base CX0 2 f fd ["graph", "ways", "stand", "row", "device"] sp_round_by := by
  refine dfn_ok F sc_round_by (by walk_at "len") fun cdv A outer s H E hr => ?_
  have hu := hr.units
  refine ⟨_, (dss_cons (ds_if (dt_val (de_cal c_sets_device (hr.mono (by decide)) (by rfl) pass0 (da_cons (dv 3) (da_cons de_int (da_cons (dv 4) da_nil))))) (dss_cons (ds_if (dt_cmp (op_eqDD hu) (de_ix hu (dv 3) de_int (fun _ _ => rfl)) (dv 2) (nomark _)) (dss_one (ds_ret (de_tup (da_cons (de_ix hu (dv 3) de_int (fun _ _ => rfl)) da_nil)))) dss_nil)
        (dss_one (ds_ret (de_if (dt_cmp (op_inDD hu) (dv 2) (de_ix hu (dv 1) (de_ix hu (dv 3) de_int (fun _ _ => rfl)) (fun _ _ => rfl)) (by rfl)) (de_op op_addD (de_tup (da_cons (de_ix hu (dv 3) de_int (fun _ _ => rfl)) da_nil)) (de_ix hu (de_ix hu (dv 1) (de_ix hu (dv 3) de_int (fun _ _ => rfl)) (fun _ _ => rfl)) (dv 2) (fun _ _ => rfl))) de_non)))) dss_nil)
        (dss_cons (ds_for PassesOwn.never rfl (di_keys (dv 0)) (dg_name (pg_name (i := 5) sc_round_by.nd rfl (Or.inl rfl))) (dss_one (ds_for PassesOwn.never rfl (di_list (de_ix hu (dv 0) (dv 5) (fun _ _ => rfl))) (dg_name (pg_name (i := 6) sc_round_by.nd rfl (Or.inl rfl))) (dss_one (ds_if (dt_val (de_cal c_sets_device (hr.mono (by decide)) (by rfl) pass0 (da_cons (dv 6) (da_cons de_int (da_cons (dv 4) da_nil))))) (dss_cons (ds_set (i := 7) sc_round_by.nd rfl (.inl rfl) (de_if (dt_cmp (op_eqDD hu) (dv 5) (de_ix hu (dv 3) de_int (fun _ _ => rfl)) (nomark _)) (de_tup da_nil) (de_get hu (de_ix hu (dv 1) (de_ix hu (dv 3) de_int (fun _ _ => rfl)) (fun _ _ => rfl)) (dv 5) ⟨rfl, rfl, rfl, rfl⟩)))
        (dss_cons (ds_set (i := 8) sc_round_by.nd rfl (.inl rfl) (de_if (dt_cmp (op_eqDD hu) (de_ix hu (dv 6) de_int (fun _ _ => rfl)) (dv 2) (nomark _)) (de_tup da_nil) (de_get hu (de_ix hu (dv 1) (de_ix hu (dv 6) de_int (fun _ _ => rfl)) (fun _ _ => rfl)) (dv 2) ⟨rfl, rfl, rfl, rfl⟩)))
        (dss_one (ds_if (PW.pt (dw_and (dt_cmp op_notD (dv 7) de_non (nomark _)) (dw_and1 (dt_cmp op_notD (dv 8) de_non (nomark _))))) (dss_one (ds_ret (de_op op_addD (de_op op_addD (de_op op_addD (de_tup (da_cons (de_ix hu (dv 3) de_int (fun _ _ => rfl)) da_nil)) (dv 7)) (de_tup (da_cons (de_ix hu (dv 6) de_int (fun _ _ => rfl)) da_nil))) (dv 8)))) dss_nil)))) dss_nil)))))
        (dss_one (ds_ret de_non)))), ?_⟩
  rintro ds M Q EX ⟨h, g, og, kvs, wy, ow, kvw, s, w, dev, rfl, o, hg, G, hw, Wy, rs, hwm, h0, q⟩
  have q : ∀ res : Option (List Wth), (res = none → ¬ Rnd h s w dev) → (∀ r, res = some r → Ring h s dev r) → fin Q (optR res) M := fun res a b => fin.same (q res a b)
  have rt : Reach h (tickS h s w) := rs.next hwm
  obtain ⟨a1, o1, kv1, la, ma, R1⟩ := Wy.at rt
  walk_at "st"
  refine ⟨h, s, w, true, dev, rfl, ?_⟩
  cases h1 : sets h s true dev with
  | true =>
    walk_at "st"
    unfold rowD
    walk_at "st"
    by_cases hts : tickS h s w = s
    · rw [decide_eq_true hts]
      walk_at "st"
      refine q (some [w]) (fun z => nomatch z) fun r e => ?_
      cases e
      exact ⟨⟨(RunTo.one (a := s) hwm).ws, hts⟩, List.cons_ne_nil _ _, by simp [seenB, h0], by simp [seenB, h1], by simp⟩
    · rw [decide_eq_false hts]
      walk_at "st"
      rcases R1.get (t := s) with ⟨z, n⟩ | ⟨r, z, r1, r2, r3⟩
      · rw [z]
        walk_at "st"
        refine q none (fun _ ⟨o', w2, m2, _, x1, x2⟩ => ?_) fun r e => nomatch e
        rcases (x1.tr ((RT.one m2).tr x2)).or with c | c
        · exact hts c
        · exact n c
      · have zs : (lk kv1 s).isSome = true := by rw [z]; rfl
        refine k_t zs ?_
        unfold runD at z
        walk_at "st"
        refine q (some ([w] ++ r)) (fun z => nomatch z) fun r' e => ?_
        cases e
        refine ⟨(RunTo.one hwm).app r1, List.cons_ne_nil _ _, by simp [seenB, h0], by simp [seenB, h1], by simp; omega⟩
  | false =>
    walk_at "st"
    have ks := G.mem
    refine ⟨kvs.map fun p => standD p.1, fun i Γ' M' => M = M' ∧ (∃ x5 x6 x7 x8, Γ' = [some (.obj g), some (.obj wy), some (standD s), some (rowD h s w), some (.str dev.s), x5, x6, x7, x8]) ∧ ∀ p ∈ kvs.take i, ∀ w2 ∈ h.ws, ¬ (sets h p.1 true dev = true ∧ RT h (tickS h s w) p.1 ∧ RT h (tickS h p.1 w2) s),
      fun i Γ' M' ⟨e, _⟩ => by rw [← e]; exact ⟨kvs, hg, rfl⟩, ⟨rfl, ⟨_, _, _, _, rfl⟩, fun p z => by simp at z⟩, fun i d Γ' M' hi ⟨eM, ⟨x5, x6, x7, x8, eΓ⟩, hno⟩ => ?_, fun Γ' M' ⟨eM, ⟨x5, x6, x7, x8, eΓ⟩, hno⟩ => ?_⟩
    · subst eM eΓ
      rw [List.getElem?_map] at hi
      obtain ⟨⟨u, du⟩, hu1, rfl⟩ := Option.map_eq_some_iff.mp hi
      have ru : Reach h u := (ks u).mp (List.mem_map.mpr ⟨_, List.mem_of_getElem? hu1, rfl⟩)
      obtain ⟨rr, lu, mr⟩ := G.at ru
      refine k_ask rfl ?_
      walk_at "st"
      refine ⟨h.ws.map (rowD h u), fun j Γ' M' => M = M' ∧ (∃ x6 x7 x8, Γ' = [some (.obj g), some (.obj wy), some (standD s), some (rowD h s w), some (.str dev.s), some (standD u), x6, x7, x8]) ∧ ∀ w2 ∈ h.ws.take j, ¬ (sets h u true dev = true ∧ RT h (tickS h s w) u ∧ RT h (tickS h u w2) s),
        fun i Γ' M' ⟨e, _⟩ => by rw [← e]; exact mr, ⟨rfl, ⟨_, _, _, rfl⟩, fun p z => by simp at z⟩, fun j d Γ' M' hj ⟨eM, ⟨x6, x7, x8, eΓ⟩, hno2⟩ => ?_, fun Γ' M' ⟨eM, ⟨x6, x7, x8, eΓ⟩, hno2⟩ => ?_⟩
      · subst eM eΓ
        rw [List.getElem?_map] at hj
        obtain ⟨w2, hw2, rfl⟩ := Option.map_eq_some_iff.mp hj
        have hwm2 := List.mem_of_getElem? hw2
        have snoc : ¬ (sets h u true dev = true ∧ RT h (tickS h s w) u ∧ RT h (tickS h u w2) s) → ∀ w2 ∈ h.ws.take (j + 1), ¬ (sets h u true dev = true ∧ RT h (tickS h s w) u ∧ RT h (tickS h u w2) s) := fun n x hx => by
          rw [List.take_add_one, hw2] at hx
          obtain hx | hx := List.mem_append.mp hx
          · exact hno2 x hx
          · have : x = w2 := by simpa using hx
            rw [this]; exact n
        refine k_ask rfl ?_
        walk_at "st"
        refine ⟨h, u, w2, true, dev, rfl, ?_⟩
        walk_at "st"
        by_cases h2 : sets h u true dev = true
        · obtain ⟨a2, o2, kv2, la2, ma2, R2⟩ := Wy.at (ru.next hwm2)
          refine k_t h2 (k_seq (k_set (k_way (h := h) (u := u) (v := tickS h s w) (a := tickS h s w) (b := u) (p := a1) ?_ ?_ ?_ ?_ eq_comm ma R1 fun x x0 x1 => ?_)))
          · intro R hR; walk_at "st"; exact hR
          · intro R hR; unfold rowD; walk_at "st"; exact hR
          · intro R hR; unfold rowD; walk_at "st"; exact hR
          · intro R hR; walk_at "st"; exact hR
          dsimp only
          refine k_seq (k_set (k_way (h := h) (u := tickS h u w2) (v := s) (a := tickS h u w2) (b := s) (p := a2) ?_ ?_ ?_ ?_ Iff.rfl ma2 R2 fun y y0 y1 => ?_))
          · intro R hR; unfold rowD; walk_at "st"; exact hR
          · intro R hR; walk_at "st"; exact hR
          · intro R hR; unfold rowD; walk_at "st"; exact hR
          · intro R hR; walk_at "st"; exact hR
          cases x with
          | none =>
            walk_at "st"
            exact ⟨rfl, ⟨_, _, _, rfl⟩, snoc fun z => x0 rfl z.2.1⟩
          | some r1 =>
            cases y with
            | none =>
              walk_at "st"
              exact ⟨rfl, ⟨_, _, _, rfl⟩, snoc fun z => y0 rfl z.2.2⟩
            | some r2 =>
              obtain ⟨p1, p2⟩ := x1 r1 rfl
              obtain ⟨p3, p4⟩ := y1 r2 rfl
              have e : runD ([w] ++ r1 ++ [w2] ++ r2) = .tup ([D.str w.s] ++ r1.map (fun w => D.str w.s) ++ [D.str w2.s] ++ r2.map fun w => D.str w.s) := by
                unfold runD
                simp
              have fine : fin Q (optR (some ([w] ++ r1 ++ [w2] ++ r2))) M := by
                refine q _ (fun z => nomatch z) fun r e => ?_
                cases e
                have run1 : RunTo h s ([w] ++ r1) u := (RunTo.one hwm).app p1
                refine ⟨(run1.snoc hwm2).app p3, by simp, by simp [seenB, h0], ?_, by simp; omega⟩
                rw [List.append_assoc, seenB_app, run1.to]
                simp [seenB, h2]
              unfold optR at fine
              simp only at fine
              rw [e] at fine
              unfold optR runD rowD
              simp only
              walk_at "st"
              exact fine
        · refine k_f (by simpa using h2) ?_
          walk_at "st"
          exact ⟨rfl, ⟨_, _, _, rfl⟩, snoc fun z => h2 z.1⟩
      · subst eM eΓ
        rw [List.length_map, List.take_length] at hno2
        refine ⟨rfl, ⟨_, _, _, _, rfl⟩, fun p hp => ?_⟩
        rw [List.take_add_one, hu1] at hp
        obtain hp | hp := List.mem_append.mp hp
        · exact hno p hp
        · have : p = (u, du) := by simpa using hp
          rw [this]; exact hno2
    · subst eM eΓ
      rw [List.length_map, List.take_length] at hno
      walk_at "st"
      refine q none (fun _ ⟨o', w2, m2, h3, x1, x2⟩ => ?_) fun r e => nomatch e
      obtain ⟨p, hp, e⟩ := List.mem_map.mp ((ks o').mpr (rt.to x1))
      subst e
      exact hno p hp w2 m2 ⟨h3, x1, x2⟩
end
end L3

/-! ring_with, fights. -/
namespace L3
open PySem PySem.Spec PyProof.Rows L2
local macro_rules | `(tactic| walk_at "mem") => `(tactic| first | assumption | exact mset_same | (refine (mset_ne ?_).trans ?_ <;> first | assumption | exact Ne.symm (by assumption) | exact mset_same | (refine (mset_ne ?_).trans ?_ <;> first | assumption | exact Ne.symm (by assumption) | exact mset_same)))
local macro_rules | `(tactic| walk_at "line") => `(tactic| first | decide | (simp only [List.length_cons, List.length_nil, List.length_map, List.length_append]; first | decide | omega) | (refine sl_b ?_; simp only [List.length_cons, List.length_nil, List.length_map, List.length_append]; first | decide | omega))
local macro_rules | `(tactic| walk_at "s1") => `(tactic| first
  | ((with_reducible refine' k_var ?g0 ?_); (case g0 => exact rfl))
  | ((with_reducible refine' k_seqN ?g0 ?_); (case g0 => (try simp only [startD, g_cons, g_nil, List.map_cons, List.map_nil, List.length_cons, List.length_nil, Nat.reduceAdd, Nat.reduceSub, List.replicate_succ, List.replicate_zero, List.cons_append, List.nil_append, List.set_cons_zero, List.set_cons_succ, List.zip_cons_cons, List.zip_nil_right, List.zip_nil_left]); try exact rfl))
  | ((with_reducible refine' k_retN ?g0 ?_); (case g0 => (try simp only [startD, g_cons, g_nil, List.map_cons, List.map_nil, List.length_cons, List.length_nil, Nat.reduceAdd, Nat.reduceSub, List.replicate_succ, List.replicate_zero, List.cons_append, List.nil_append, List.set_cons_zero, List.set_cons_succ, List.zip_cons_cons, List.zip_nil_right, List.zip_nil_left]); try exact rfl))
  | (with_reducible refine k_nedev ?_)
  | (with_reducible refine k_ifS ?_)
  | (with_reducible refine k_next ?_)
  | (with_reducible refine k_drop ?_)
  | (with_reducible refine k_set ?_)
  | (with_reducible refine k_asg ?_)
  | (with_reducible refine k_sub ?_)
  | (with_reducible refine k_par ?_)
  | (with_reducible refine k_asP ?_)
  | (with_reducible refine k_par3 ?_)
  | (with_reducible refine k_asP3 ?_)
  | (with_reducible refine k_aug ?_)
  | (with_reducible refine k_for ?_)
  | (with_reducible refine k_B ?_)
  | (with_reducible refine k_asB ?_)
  | (with_reducible refine k_and ?_)
  | (with_reducible refine k_or ?_)
  | (with_reducible refine k_not ?_)
  | (with_reducible refine k_andV ?_)
  | (with_reducible refine k_orV ?_)
  | (with_reducible refine k_notV ?_)
  | (with_reducible refine k_chain ?_)
  | (with_reducible refine k_yes ?_)
  | (with_reducible refine k_if ?_)
  | (with_reducible refine k_c ?_)
  | (with_reducible refine k_op ?_)
  | (with_reducible refine k_nil ?_)
  | (with_reducible refine k_cons ?_)
  | (with_reducible refine k_tup ?_)
  | (with_reducible refine k_lst ?_)
  | (with_reducible refine k_call ?_)
  | (with_reducible refine k_fn ?_)
  | (with_reducible refine k_sl ?_)
  | (with_reducible refine k_app ?_)
  | (with_reducible refine k_pop ?_)
  | (with_reducible refine k_it ?_)
  | (with_reducible refine k_ik ?_)
  | (with_reducible refine k_il ?_)
  | (with_reducible refine k_ir ?_)
  | (with_reducible refine k_lc ?_)
  | (with_reducible refine k_addi ?_)
  | (with_reducible refine k_iaddi ?_)
  | (with_reducible refine k_eqi ?_)
  | (with_reducible refine k_nei ?_)
  | (with_reducible refine k_eqs ?_)
  | (with_reducible refine k_nes ?_)
  | (with_reducible refine k_eqb ?_)
  | (with_reducible refine k_neb ?_)
  | (with_reducible refine k_eqst ?_)
  | (with_reducible refine k_isN ?_)
  | (with_reducible refine k_notN ?_)
  | (with_reducible refine k_rsls ?_)
  | (with_reducible refine k_rsl ?_)
  | (with_reducible refine k_lent ?_)
  | (with_reducible refine k_i2 ?_)
  | (with_reducible refine k_toi ?_)
  | (with_reducible refine k_tob ?_)
  | (with_reducible refine k_itw ?_)
  | (with_reducible refine k_itt ?_)
  | (with_reducible refine k_lc2 ?_)
  | (with_reducible refine k_get ?_)
  | (with_reducible refine k_dc ?_)
  | ((with_reducible refine' k_ask ?g0 ?_); (case g0 => exact rfl))
  | ((with_reducible refine' k_ix ?g0 ?_); (case g0 => exact rfl))
  | ((with_reducible refine' k_lix ?g0 ?g1 ?_); (case g0 => walk_at "mem"); (case g1 => exact rfl))
  | ((with_reducible refine' k_int ?g0 ?_); (case g0 => first | exact trivial | exact cm2 | (show (0 : Int) < _; omega) | (show CMul _ _; exact .inl ⟨by omega, by omega⟩) | (show CMul _ _; exact .inr ⟨by omega, by omega⟩) | (show CDiv _ _; exact ⟨by omega, by omega⟩) | exact ⟨by decide, by decide⟩))
  | ((with_reducible refine' k_addt ?g0 ?_); (case g0 => walk_at "line"))
  | ((with_reducible refine' sl_s ?g0 ?_); (case g0 => walk_at "line"))
  | ((with_reducible refine' k_inT ?g0 ?g1 ?_); (case g0 => exact rfl); (case g1 => exact rfl))
  | ((with_reducible refine' k_ninT ?g0 ?g1 ?_); (case g0 => exact rfl); (case g1 => exact rfl))
  | ((with_reducible refine' k_inL ?g0 ?g1 ?g2 ?_); (case g0 => walk_at "mem"); (case g1 => exact rfl); (case g2 => exact rfl))
  | ((with_reducible refine' k_ninL ?g0 ?g1 ?g2 ?_); (case g0 => walk_at "mem"); (case g1 => exact rfl); (case g2 => exact rfl))
  | ((with_reducible refine' k_lenl ?g0 ?_); (case g0 => walk_at "mem"))
  | ((with_reducible refine' k_ninD ?g0 ?_); (case g0 => walk_at "mem"))
  | ((with_reducible refine' k_inD ?g0 ?_); (case g0 => walk_at "mem"))
  | ((with_reducible refine' k_rik ?g0 ?_); (case g0 => walk_at "mem"))
  | ((with_reducible refine' k_ril ?g0 ?_); (case g0 => walk_at "mem"))
  | ((with_reducible refine' k_isi ?g0 ?g1 ?_); (case g0 => exact rfl); (case g1 => exact rfl))
  | ((with_reducible refine' k_isl ?g0 ?_); (case g0 => walk_at "mem"))
  | ((with_reducible refine' k_rget ?g0 ?_); (case g0 => walk_at "mem"))
  | ((with_reducible refine' k_dix ?g0 ?g1 ?_); (case g0 => walk_at "mem"); (case g1 => assumption))
  | ((with_reducible refine' k_iaddl ?g0 ?g1 ?g2 ?_); (case g0 => walk_at "mem"); (case g1 => walk_at "mem"); (case g2 => walk_at "line"))
  | ((with_reducible refine' k_addl ?g0 ?g1 ?g2 ?_); (case g0 => walk_at "mem"); (case g1 => walk_at "mem"); (case g2 => walk_at "line"))
  | ((with_reducible refine' k_rall ?g0 ?g1 ?_); (case g0 => walk_at "mem"); (case g1 => exact rfl))
  | ((with_reducible refine' k_tot ?g0 ?_); (case g0 => walk_at "mem"))
  | ((with_reducible refine' k_t ?g0 ?_); (case g0 => exact rfl))
  | ((with_reducible refine' k_f ?g0 ?_); (case g0 => exact rfl)))
local macro_rules | `(tactic| walk_at "st") => `(tactic| (repeat (walk_at "s1")); try dsimp only)
local macro_rules | `(tactic| walk_at "c") => `(tactic| try simp only [inV_two, d_no, d_on, d_off, d_open, d_shut, d_no', d_on', d_off', d_open', d_shut', w_cold, w_cold', v_heat, reduceCtorEq, decide_true, decide_false, Bool.or_false, Bool.false_or, Bool.or_true, Bool.true_or, Bool.not_true, Bool.not_false, Bool.false_eq_true, Bool.true_eq_false, if_true, if_false, reduceIte])
local macro_rules | `(tactic| walk_at "len") => `(tactic| (intro ds M Q EX h; repeat (obtain ⟨x, h⟩ := h; try (subst x; exact rfl))))
theorem seen_at {h : House} {dev : Dev} {who : Bool} : ∀ {r : List Wth} {s t : Stand}, seenB h dev who s r = true → RunTo h s r t → ∃ u w, w ∈ h.ws ∧ sets h u who dev = true ∧ RT h s u ∧ RT h (tickS h u w) t
  | [], s, t, e, _ => by simp [seenB] at e
  | w :: r, s, t, e, x => by
    have tl : RunTo h (tickS h s w) r t := ⟨fun u z => x.ws u (List.mem_cons_of_mem _ z), x.to⟩
    have e : (sets h s who dev || seenB h dev who (tickS h s w) r) = true := e
    rcases Bool.or_eq_true_iff.mp e with e | e
    · exact ⟨s, w, x.ws w List.mem_cons_self, e, .refl, ⟨r, tl⟩⟩
    · obtain ⟨u, w', m, a, b, c⟩ := seen_at e tl
      exact ⟨u, w', m, a, (RT.one (x.ws w List.mem_cons_self)).tr b, c⟩
theorem Ring.fight {h : House} {s : Stand} {dev : Dev} {r : List Wth} (R : Ring h s dev r) (k : Reach h s) : Fight h dev := by
  obtain ⟨u, w, m, a, b, c⟩ := seen_at R.s0 R.run
  obtain ⟨u1, w1, m1, a1, b1, c1⟩ := seen_at R.s1 R.run
  exact ⟨u, w, k.to b, m, a, u1, w1, m1, a1, c.tr b1, c1.tr b⟩
def optP : Option (Stand × List Wth) → D
  | none => .non
  | some (s, r) => .tup [standD s, runD r]
structure WInv (h : House) (M : Mm) (wy : Addr) (kvs : List (Stand × D)) (i : Nat) (M' : Mm) : Prop where
  le : Le M M'
  dc : ∃ ob kvw, M' wy = some (.dct ob kvw) ∧ keysOf kvw = (keysOf kvs).take i ∧ ∀ p ∈ kvw, ∃ a ob kv, p.2 = .obj a ∧ a ≠ wy ∧ M' a = some (.dct ob kv) ∧ Reached h p.1 kv
section
variable {P : Program} {w : World} {K : PySem.W.Frag} {mg : Str → Option Value} {base : Heap}
abbrev s_ring_with : Stmt := topS 54
theorem sc_ring_with : FnScope ["house", "device", "graph", "ways", "stand", "row", "found"] ["house", "device"] (defScope s_ring_with) := ⟨rfl, rfl, rfl, by decide +kernel, rfl, by decide +kernel, by decide +kernel⟩
def sp_ring_with : DSp := fun ds M Q _ => ∃ h dev, ds = [houseD h, .str (Dev.s dev)] ∧ h.Ok ∧ ∀ res : Option (Stand × List Wth), (res = none → ¬ Fight h dev) → (∀ s r, res = some (s, r) → Reach h s ∧ Ring h s dev r) → Q (optP res) M
theorem ok_ring_with {f : Addr} {fd : FuncData} (c_graph_of : Cal P w K mg base CX0 "graph_of" 5 ["house"] sp_graph_of) (c_reached : Cal P w K mg base CX0 "reached" 1 ["graph", "first"] sp_reached) (c_sets_device : Cal P w K mg base CX0 "sets_device" 1 ["row", "who", "device"] sp_sets_device) (c_round_by : Cal P w K mg base CX0 "round_by" 2 ["graph", "ways", "stand", "row", "device"] sp_round_by) (F : Fun K "ring_with" "ring_with" s_ring_with f fd) : DFn P w K mg base CX0 6 f fd ["house", "device"] sp_ring_with := by
  refine dfn_ok F sc_ring_with (by walk_at "len") fun cdv A outer s H E hr => ?_
  have hu := hr.units
  refine ⟨_, (dss_cons (ds_set (i := 2) sc_ring_with.nd rfl (.inr rfl) (de_cal c_graph_of (hr.mono (by decide)) (by rfl) pass0 (da_cons (dv 0) da_nil)))
        (dss_cons (ds_setDc (i := 3) (own := [("stand", 4)]) rfl sc_ring_with.nd rfl rfl hu (sw_dict rfl rfl rfl (by decide +kernel)) (di_keys (dv 2)) (blkOk_by (own := [("stand", 4)]) (N := ["house", "device", "graph", "ways", "stand", "row", "found"]) (sc := defScope s_ring_with) (by decide +kernel)) (fun _ _ _ _ _ => (dg_name (pg_name (i := 4) sc_ring_with.nd rfl (Or.inl rfl)))) (fun _ _ _ _ _ => dts_nil) (fun _ _ _ _ _ => (dv 4)) (fun _ _ _ _ _ => (de_cal c_reached (hr.mono (by decide)) (by rfl) pass0 (da_cons (dv 2) (da_cons (dv 4) da_nil)))))
        (dss_cons (ds_for PassesOwn.never rfl (di_keys (dv 2)) (dg_name (pg_name (i := 4) sc_ring_with.nd rfl (Or.inl rfl))) (dss_one (ds_for PassesOwn.never rfl (di_list (de_ix hu (dv 2) (dv 4) (fun _ _ => rfl))) (dg_name (pg_name (i := 5) sc_ring_with.nd rfl (Or.inl rfl))) (dss_one (ds_if (dt_val (de_cal c_sets_device (hr.mono (by decide)) (by rfl) pass0 (da_cons (dv 5) (da_cons de_int (da_cons (dv 1) da_nil))))) (dss_cons (ds_set (i := 6) sc_ring_with.nd rfl (.inl rfl) (de_cal c_round_by (hr.mono (by decide)) (by rfl) pass0 (da_cons (dv 2) (da_cons (dv 3) (da_cons (dv 4) (da_cons (dv 5) (da_cons (dv 1) da_nil)))))))
        (dss_one (ds_if (dt_cmp op_notD (dv 6) de_non (nomark _)) (dss_one (ds_ret (de_tup (da_cons (dv 4) (da_cons (dv 6) da_nil))))) dss_nil))) dss_nil)))))
        (dss_one (ds_ret de_non))))), ?_⟩
  rintro ds M Q EX ⟨h, dev, rfl, o, q⟩
  walk_at "st"
  refine ⟨h, rfl, o, fun g og kvs M1 hg0 le1 hg G => ?_⟩
  walk_at "st"
  intro wy hwy
  have hwg : wy ≠ g := Ne.symm (mne hg hwy)
  have hln := G.len o
  refine ⟨kvs.map fun p => standD p.1, WInv h M1 wy kvs, fun i M' W => ⟨kvs, W.le _ _ hg, rfl⟩, ⟨Le.new hwy, _, [], mset_same, by simp [keysOf], fun _ z => nomatch z⟩, fun i d M2 hi W => ?_, fun M2 W => ?_⟩
  · rw [List.getElem?_map] at hi
    obtain ⟨⟨u, du⟩, hu1, rfl⟩ := Option.map_eq_some_iff.mp hi
    have mu : u ∈ keysOf kvs := List.mem_map.mpr ⟨_, List.mem_of_getElem? hu1, rfl⟩
    have ru : Reach h u := (G.mem u).mp mu
    have hku : (keysOf kvs)[i]? = some u := by unfold keysOf; rw [List.getElem?_map, hu1]; rfl
    refine k_ask rfl ⟨by simp, ?_⟩
    walk_at "st"
    refine ⟨h, g, og, kvs, u, rfl, o, W.le _ _ hg, G.le W.le, ru, fun f o' kv M3 hf le3 hf3 R => ?_⟩
    obtain ⟨ob, kvw, e1, e2, e3⟩ := W.dc
    have hfw : f ≠ wy := Ne.symm (mne e1 hf)
    have hil : i < (keysOf kvs).length := (List.getElem?_eq_some_iff.mp hku).1
    have hkl : (keysOf kvs).length = kvs.length := by unfold keysOf; rw [List.length_map]
    refine k_ask (toStand_standD u) (k_rset (kvs := kvw) (le3 _ _ e1) (lk_none ?_) (line3 ?_) fun ob' => ?_)
    · show u ∉ keysOf kvw
      rw [e2]
      intro z
      obtain ⟨j, hj⟩ := List.mem_iff_getElem?.mp z
      have hj2 : j < i := by
        have := (List.getElem?_eq_some_iff.mp hj).1
        rw [List.length_take] at this
        omega
      rw [List.getElem?_take_of_lt hj2] at hj
      have nd := List.nodup_iff_pairwise_ne.mp G.nd
      rw [List.pairwise_iff_getElem] at nd
      obtain ⟨l1, q1⟩ := List.getElem?_eq_some_iff.mp hj
      obtain ⟨l2, q2⟩ := List.getElem?_eq_some_iff.mp hku
      exact nd j i l1 l2 hj2 (by rw [q1, q2])
    · have : (keysOf kvw).length ≤ i := by rw [e2, List.length_take]; omega
      unfold keysOf at this
      rw [List.length_map] at this
      omega
    · refine ⟨(W.le.tr le3).at hwy, ob', kvw ++ [(u, .obj f)], mset_same, ?_, fun p hp => ?_⟩
      · rw [keys_snoc, e2, List.take_add_one, hku]
        rfl
      · obtain hp | hp := List.mem_append.mp hp
        · obtain ⟨a, ob, kv, z1, z2, z3, z4⟩ := e3 p hp
          exact ⟨a, ob, kv, z1, z2, (mset_ne z2).trans (le3 _ _ z3), z4⟩
        · rw [(List.mem_singleton.mp hp)]
          exact ⟨f, o', kv, rfl, hfw, (mset_ne hfw).trans hf3, R⟩
  have G2 := G.le W.le
  have hg2 := W.le _ _ hg
  obtain ⟨ow, kvw, hw2, e2, e3⟩ := W.dc
  have Wy : Ways h M2 kvw := by
    refine ⟨fun s k => ?_, fun p hp => let ⟨a, ob, kv, z1, _, z3, z4⟩ := e3 p hp; ⟨a, ob, kv, z1, z3, z4⟩⟩
    rw [e2, List.length_map, List.take_of_length_le (by unfold keysOf; rw [List.length_map]; exact Nat.le_refl _)]
    exact (G.mem s).mpr k
  have le : Le M M2 := le1.tr W.le
  have q : ∀ res : Option (Stand × List Wth), (res = none → ¬ Fight h dev) → (∀ s r, res = some (s, r) → Reach h s ∧ Ring h s dev r) → fin Q (optP res) M2 := fun res a b => ⟨M, le, q res a b⟩
  clear e2 e3 W le
  walk_at "st"
  refine ⟨kvs.map fun p => standD p.1, fun i Γ' M' => M2 = M' ∧ (∃ x4 x5 x6, Γ' = [some (houseD h), some (.str dev.s), some (.obj g), some (.obj wy), x4, x5, x6]) ∧ ∀ p ∈ kvs.take i, ∀ w ∈ h.ws, sets h p.1 false dev = true → ¬ Rnd h p.1 w dev,
    fun i Γ' M' ⟨e, _⟩ => by rw [← e]; exact ⟨kvs, hg2, rfl⟩, ⟨rfl, ⟨_, _, _, rfl⟩, fun p z => by simp at z⟩, fun i d Γ' M' hi ⟨eM, ⟨x4, x5, x6, eΓ⟩, hno⟩ => ?_, fun Γ' M' ⟨eM, ⟨x4, x5, x6, eΓ⟩, hno⟩ => ?_⟩
  · subst eM eΓ
    rw [List.getElem?_map] at hi
    obtain ⟨⟨s, du⟩, hu1, rfl⟩ := Option.map_eq_some_iff.mp hi
    have rs : Reach h s := (G.mem s).mp (List.mem_map.mpr ⟨_, List.mem_of_getElem? hu1, rfl⟩)
    obtain ⟨rr, lu, mr⟩ := G2.at rs
    refine k_ask rfl ?_
    walk_at "st"
    refine ⟨h.ws.map (rowD h s), fun j Γ' M' => M2 = M' ∧ (∃ x5 x6, Γ' = [some (houseD h), some (.str dev.s), some (.obj g), some (.obj wy), some (standD s), x5, x6]) ∧ ∀ w ∈ h.ws.take j, sets h s false dev = true → ¬ Rnd h s w dev,
      fun i Γ' M' ⟨e, _⟩ => by rw [← e]; exact mr, ⟨rfl, ⟨_, _, rfl⟩, fun p z => by simp at z⟩, fun j d Γ' M' hj ⟨eM, ⟨x5, x6, eΓ⟩, hno2⟩ => ?_, fun Γ' M' ⟨eM, ⟨x5, x6, eΓ⟩, hno2⟩ => ?_⟩
    · subst eM eΓ
      rw [List.getElem?_map] at hj
      obtain ⟨w, hw, rfl⟩ := Option.map_eq_some_iff.mp hj
      have hwm := List.mem_of_getElem? hw
      have snoc : (sets h s false dev = true → ¬ Rnd h s w dev) → ∀ w ∈ h.ws.take (j + 1), sets h s false dev = true → ¬ Rnd h s w dev := fun n x hx => by
        rw [List.take_add_one, hw] at hx
        obtain hx | hx := List.mem_append.mp hx
        · exact hno2 x hx
        · have : x = w := by simpa using hx
          rw [this]; exact n
      refine k_ask rfl ?_
      walk_at "st"
      refine ⟨h, s, w, false, dev, rfl, ?_⟩
      walk_at "st"
      by_cases h0 : sets h s false dev = true
      · refine k_t h0 ?_
        walk_at "st"
        refine ⟨h, g, og, kvs, wy, ow, kvw, s, w, dev, rfl, o, hg2, G2, hw2, Wy, rs, hwm, h0, fun res r0 r1 => ?_⟩
        cases res with
        | none =>
          unfold optR
          walk_at "st"
          exact ⟨rfl, ⟨_, _, rfl⟩, snoc fun _ => r0 rfl⟩
        | some r =>
          have fine := q (some (s, r)) (fun z => nomatch z) fun s' r' e => by
            cases e
            exact ⟨rs, r1 r rfl⟩
          unfold optP runD at fine
          unfold optR runD
          walk_at "st"
          exact fine
      · refine k_f (by simpa using h0) ?_
        walk_at "st"
        exact ⟨rfl, ⟨_, _, rfl⟩, snoc fun z => absurd z h0⟩
    · subst eM eΓ
      rw [List.length_map, List.take_length] at hno2
      refine ⟨rfl, ⟨_, _, _, rfl⟩, fun p hp => ?_⟩
      rw [List.take_add_one, hu1] at hp
      obtain hp | hp := List.mem_append.mp hp
      · exact hno p hp
      · have : p = (s, du) := by simpa using hp
        rw [this]; exact hno2
  · subst eM eΓ
    rw [List.length_map, List.take_length] at hno
    walk_at "st"
    refine q none (fun _ ⟨s, w, rs, m, h0, R⟩ => ?_) fun s r e => nomatch e
    obtain ⟨p, hp, e⟩ := List.mem_map.mp ((G.mem s).mpr rs)
    subst e
    exact hno p hp w m h0 R

abbrev s_fights : Stmt := topS 57
theorem sc_fights : FnScope ["house", "device"] ["house"] (defScope s_fights) := ⟨rfl, rfl, rfl, by decide +kernel, rfl, by decide +kernel, by decide +kernel⟩
def sp_fights : DSp := fun ds M Q _ => ∃ h, ds = [houseD h] ∧ h.Ok ∧ ∀ (fb : Dev → Bool) a, (∀ d, fb d = true ↔ Fight h d) → M a = none → Q (.obj a) (mset M a (.lst (([Dev.heater, .window].filter fb).map fun d => .str d.s)))
theorem ok_fights {f : Addr} {fd : FuncData} (c_need_house : Cal P w K mg base CX0 "need_house" 7 ["value"] sp_need_house) (c_ring_with : Cal P w K mg base CX0 "ring_with" 6 ["house", "device"] sp_ring_with) (k_DEVICES : Con mg K "DEVICES" (.tup [.str "heater", .str "window"])) (F : Fun K "fights" "fights" s_fights f fd) : DFn P w K mg base CX0 8 f fd ["house"] sp_fights := by
  refine dfn_ok F sc_fights (by walk_at "len") fun cdv A outer s H E hr => ?_
  have hu := hr.units
  refine ⟨_, (dss_cons (ds_expr (de_cal c_need_house (hr.mono (by decide)) (by rfl) pass0 (da_cons (dv 0) da_nil)))
        (dss_one (ds_ret (de_lc (own := [("device", 1)]) rfl sc_fights.nd (di_tup (de_con k_DEVICES (by rfl))) (blkOk_by (own := [("device", 1)]) (N := ["house", "device"]) (sc := defScope s_fights) (by decide +kernel)) (fun _ _ _ _ _ => (dg_name (pg_name (i := 1) sc_fights.nd rfl (Or.inl rfl)))) (fun _ _ _ _ _ => (dts_one (dt_cmp op_notD (de_cal c_ring_with (hr.mono (by decide)) (by rfl) pass0 (da_cons (dv 0) (da_cons (dv 1) da_nil))) de_non (nomark _)))) (fun _ _ _ _ _ => (dv 1)))))), ?_⟩
  rintro ds M Q EX ⟨h, rfl, o, q⟩
  walk_at "st"
  refine ⟨h, rfl, o, ?_⟩
  walk_at "st"
  obtain ⟨fb, hfb⟩ : ∃ fb : Dev → Bool, ∀ d, fb d = true ↔ Fight h d := ⟨fun d => @decide (Fight h d) (Classical.propDecidable _), fun d => @decide_eq_true_iff _ (Classical.propDecidable _)⟩
  refine lc_map [Dev.heater, .window] (fun d => .str d.s) (fun d => if fb d = true then some (.str d.s) else none) srcC_ok (line3 (by simp)) (fun a acc d ha hd R hR => ?_) fun a ha => ?_
  · refine k_ask rfl ⟨by simp, ?_⟩
    walk_at "st"
    refine ⟨h, d, rfl, o, fun res r0 r1 => ?_⟩
    cases res with
    | none =>
      have : fb d = false := by
        cases z : fb d with
        | false => rfl
        | true => exact absurd ((hfb d).mp z) (r0 rfl)
      rw [this] at hR
      unfold optP
      walk_at "st"
      exact hR
    | some sr =>
      obtain ⟨s, r⟩ := sr
      obtain ⟨k, R1⟩ := r1 s r rfl
      rw [if_pos ((hfb d).mpr (R1.fight k))] at hR
      unfold optP
      walk_at "st"
      exact hR
  · have e : [Dev.heater, .window].filterMap (fun d => if fb d = true then some (D.str d.s) else none) = ([Dev.heater, .window].filter fb).map fun d => D.str d.s := by
      cases z1 : fb .heater <;> cases z2 : fb .window <;> simp [List.filterMap_cons, List.filter_cons, z1, z2]
    rw [e]
    exact fin.same (q fb a hfb ha)
end
end L3

/-! The law's own: decks, houses. -/
namespace L3
open PySem PySem.Spec PyProof.Rows L2
local macro_rules | `(tactic| walk_at "mem") => `(tactic| first | assumption | exact mset_same | (refine (mset_ne ?_).trans ?_ <;> first | assumption | exact Ne.symm (by assumption) | exact mset_same | (refine (mset_ne ?_).trans ?_ <;> first | assumption | exact Ne.symm (by assumption) | exact mset_same)))
local macro_rules | `(tactic| walk_at "line") => `(tactic| first | decide | (simp only [List.length_cons, List.length_nil, List.length_map, List.length_append]; first | decide | omega) | (refine sl_b ?_; simp only [List.length_cons, List.length_nil, List.length_map, List.length_append]; first | decide | omega))
local macro_rules | `(tactic| walk_at "s1") => `(tactic| first
  | ((with_reducible refine' k_var ?g0 ?_); (case g0 => exact rfl))
  | ((with_reducible refine' k_seqN ?g0 ?_); (case g0 => (try simp only [startD, g_cons, g_nil, List.map_cons, List.map_nil, List.length_cons, List.length_nil, Nat.reduceAdd, Nat.reduceSub, List.replicate_succ, List.replicate_zero, List.cons_append, List.nil_append, List.set_cons_zero, List.set_cons_succ, List.zip_cons_cons, List.zip_nil_right, List.zip_nil_left]); try exact rfl))
  | ((with_reducible refine' k_retN ?g0 ?_); (case g0 => (try simp only [startD, g_cons, g_nil, List.map_cons, List.map_nil, List.length_cons, List.length_nil, Nat.reduceAdd, Nat.reduceSub, List.replicate_succ, List.replicate_zero, List.cons_append, List.nil_append, List.set_cons_zero, List.set_cons_succ, List.zip_cons_cons, List.zip_nil_right, List.zip_nil_left]); try exact rfl))
  | (with_reducible refine k_nedev ?_)
  | (with_reducible refine k_ifS ?_)
  | (with_reducible refine k_next ?_)
  | (with_reducible refine k_drop ?_)
  | (with_reducible refine k_set ?_)
  | (with_reducible refine k_asg ?_)
  | (with_reducible refine k_sub ?_)
  | (with_reducible refine k_par ?_)
  | (with_reducible refine k_asP ?_)
  | (with_reducible refine k_par3 ?_)
  | (with_reducible refine k_asP3 ?_)
  | (with_reducible refine k_aug ?_)
  | (with_reducible refine k_for ?_)
  | (with_reducible refine k_B ?_)
  | (with_reducible refine k_asB ?_)
  | (with_reducible refine k_and ?_)
  | (with_reducible refine k_or ?_)
  | (with_reducible refine k_not ?_)
  | (with_reducible refine k_andV ?_)
  | (with_reducible refine k_orV ?_)
  | (with_reducible refine k_notV ?_)
  | (with_reducible refine k_chain ?_)
  | (with_reducible refine k_yes ?_)
  | (with_reducible refine k_if ?_)
  | (with_reducible refine k_c ?_)
  | (with_reducible refine k_op ?_)
  | (with_reducible refine k_nil ?_)
  | (with_reducible refine k_cons ?_)
  | (with_reducible refine k_tup ?_)
  | (with_reducible refine k_lst ?_)
  | (with_reducible refine k_call ?_)
  | (with_reducible refine k_fn ?_)
  | (with_reducible refine k_sl ?_)
  | (with_reducible refine k_app ?_)
  | (with_reducible refine k_pop ?_)
  | (with_reducible refine k_it ?_)
  | (with_reducible refine k_ik ?_)
  | (with_reducible refine k_il ?_)
  | (with_reducible refine k_ir ?_)
  | (with_reducible refine k_lc ?_)
  | (with_reducible refine k_addi ?_)
  | (with_reducible refine k_iaddi ?_)
  | (with_reducible refine k_eqi ?_)
  | (with_reducible refine k_nei ?_)
  | (with_reducible refine k_eqs ?_)
  | (with_reducible refine k_nes ?_)
  | (with_reducible refine k_eqb ?_)
  | (with_reducible refine k_neb ?_)
  | (with_reducible refine k_eqst ?_)
  | (with_reducible refine k_isN ?_)
  | (with_reducible refine k_notN ?_)
  | (with_reducible refine k_rsls ?_)
  | (with_reducible refine k_rsl ?_)
  | (with_reducible refine k_lent ?_)
  | (with_reducible refine k_i2 ?_)
  | (with_reducible refine k_toi ?_)
  | (with_reducible refine k_tob ?_)
  | (with_reducible refine k_itw ?_)
  | (with_reducible refine k_itt ?_)
  | (with_reducible refine k_lc2 ?_)
  | (with_reducible refine k_get ?_)
  | (with_reducible refine k_dc ?_)
  | ((with_reducible refine' k_ask ?g0 ?_); (case g0 => exact rfl))
  | ((with_reducible refine' k_ix ?g0 ?_); (case g0 => exact rfl))
  | ((with_reducible refine' k_lix ?g0 ?g1 ?_); (case g0 => walk_at "mem"); (case g1 => exact rfl))
  | ((with_reducible refine' k_int ?g0 ?_); (case g0 => first | exact trivial | exact cm2 | (show (0 : Int) < _; omega) | (show CMul _ _; exact .inl ⟨by omega, by omega⟩) | (show CMul _ _; exact .inr ⟨by omega, by omega⟩) | (show CDiv _ _; exact ⟨by omega, by omega⟩) | exact ⟨by decide, by decide⟩))
  | ((with_reducible refine' k_addt ?g0 ?_); (case g0 => walk_at "line"))
  | ((with_reducible refine' sl_s ?g0 ?_); (case g0 => walk_at "line"))
  | ((with_reducible refine' k_inT ?g0 ?g1 ?_); (case g0 => exact rfl); (case g1 => exact rfl))
  | ((with_reducible refine' k_ninT ?g0 ?g1 ?_); (case g0 => exact rfl); (case g1 => exact rfl))
  | ((with_reducible refine' k_inL ?g0 ?g1 ?g2 ?_); (case g0 => walk_at "mem"); (case g1 => exact rfl); (case g2 => exact rfl))
  | ((with_reducible refine' k_ninL ?g0 ?g1 ?g2 ?_); (case g0 => walk_at "mem"); (case g1 => exact rfl); (case g2 => exact rfl))
  | ((with_reducible refine' k_lenl ?g0 ?_); (case g0 => walk_at "mem"))
  | ((with_reducible refine' k_ninD ?g0 ?_); (case g0 => walk_at "mem"))
  | ((with_reducible refine' k_inD ?g0 ?_); (case g0 => walk_at "mem"))
  | ((with_reducible refine' k_rik ?g0 ?_); (case g0 => walk_at "mem"))
  | ((with_reducible refine' k_ril ?g0 ?_); (case g0 => walk_at "mem"))
  | ((with_reducible refine' k_isi ?g0 ?g1 ?_); (case g0 => exact rfl); (case g1 => exact rfl))
  | ((with_reducible refine' k_isl ?g0 ?_); (case g0 => walk_at "mem"))
  | ((with_reducible refine' k_rget ?g0 ?_); (case g0 => walk_at "mem"))
  | ((with_reducible refine' k_dix ?g0 ?g1 ?_); (case g0 => walk_at "mem"); (case g1 => assumption))
  | ((with_reducible refine' k_iaddl ?g0 ?g1 ?g2 ?_); (case g0 => walk_at "mem"); (case g1 => walk_at "mem"); (case g2 => walk_at "line"))
  | ((with_reducible refine' k_addl ?g0 ?g1 ?g2 ?_); (case g0 => walk_at "mem"); (case g1 => walk_at "mem"); (case g2 => walk_at "line"))
  | ((with_reducible refine' k_rall ?g0 ?g1 ?_); (case g0 => walk_at "mem"); (case g1 => exact rfl))
  | ((with_reducible refine' k_tot ?g0 ?_); (case g0 => walk_at "mem"))
  | ((with_reducible refine' k_t ?g0 ?_); (case g0 => exact rfl))
  | ((with_reducible refine' k_f ?g0 ?_); (case g0 => exact rfl)))
local macro_rules | `(tactic| walk_at "st") => `(tactic| (repeat (walk_at "s1")); try dsimp only)
local macro_rules | `(tactic| walk_at "c") => `(tactic| try simp only [inV_two, d_no, d_on, d_off, d_open, d_shut, d_no', d_on', d_off', d_open', d_shut', w_cold, w_cold', v_heat, reduceCtorEq, decide_true, decide_false, Bool.or_false, Bool.false_or, Bool.or_true, Bool.true_or, Bool.not_true, Bool.not_false, Bool.false_eq_true, Bool.true_eq_false, if_true, if_false, reduceIte])
local macro_rules | `(tactic| walk_at "len") => `(tactic| (intro ds M Q EX h; repeat (obtain ⟨x, h⟩ := h; try (subst x; exact rfl))))
theorem k_rsetl {M : Mm} {a : Addr} {ds : List D} {n : Nat} {v : D} {R : Mm → Prop} (h : M a = some (.lst ds)) (hn : n < ds.length) (q : R (mset M a (.lst (ds.set n v)))) : rSet (.obj a) (.int (.ofNat n)) v M R := by
  unfold rSet
  simp only [h]
  exact ⟨hn, q⟩
theorem k_sortI {M : Mm} {a : Addr} {ds : List D} {ns : List Int} {Q : QD} (h : M a = some (.lst ds)) (h1 : toIs ds = some ns) (h2 : ns.length < 64) (q : ∀ ns' : List Int, ns'.Perm ns → ns'.Pairwise (· ≤ ·) → ∀ p, M p = none → Q (.obj p) (mset M p (.lst (ns'.map D.int)))) : rSortI [.obj a] M Q := by
  unfold rSortI
  simp only [h, h1, ask_some]
  exact ⟨h2, q⟩
def Dk (a : Addr) (n : Nat) (M : Mm) : Prop := ∃ c s t : Int, M a = some (.lst [.int c, .int s, .int t]) ∧ 0 ≤ s ∧ s < 2147483579 ∧ 0 ≤ t ∧ t ≤ n
theorem Dk.new {a : Addr} {n : Nat} {M : Mm} (d : Dk a n M) {p : Addr} {o : MO} (hp : M p = none) : Dk a n (mset M p o) := by
  obtain ⟨c, s, t, h, r⟩ := d
  exact ⟨c, s, t, (mset_ne (mne h hp)).trans h, r⟩
theorem Dk.mono {a : Addr} {n m : Nat} {M : Mm} (d : Dk a n M) (h : n ≤ m) : Dk a m M := by
  obtain ⟨c, s, t, h1, h2, h3, h4, h5⟩ := d
  exact ⟨c, s, t, h1, h2, h3, h4, by omega⟩
theorem Dk.at {a : Addr} {n : Nat} {M : Mm} (d : Dk a n M) {p : Addr} (hp : M p = none) : p ≠ a := by
  obtain ⟨c, s, t, h, r⟩ := d
  exact Ne.symm (mne h hp)
section
variable {P : Program} {w : World} {K : PySem.W.Frag} {mg : Str → Option Value} {base : Heap}
abbrev s_law_deck : Stmt := topS 60
theorem sc_law_deck : FnScope ["_law_cell", "_law_turn"] ["_law_cell", "_law_turn"] (defScope s_law_deck) := ⟨rfl, rfl, rfl, by decide +kernel, rfl, by decide +kernel, by decide +kernel⟩
def sp_law_deck : DSp := fun ds M Q _ => ∃ c : Int, ds = [.int c, .int 6] ∧ ∀ a M', M a = none → Le M M' → Dk a 6 M' → Q (.obj a) M'
theorem ok_law_deck {f : Addr} {fd : FuncData} (F : Fun K "_law_deck" "_law_deck" s_law_deck f fd) : DFn P w K mg base CX0 1 f fd ["_law_cell", "_law_turn"] sp_law_deck := by
  refine dfn_ok F sc_law_deck (by walk_at "len") fun cdv A outer s H E hr => ?_
  have hu := hr.units
  refine ⟨_, (dss_cons (ds_if (dt_cmp op_geD (dv 0) (de_op op_powD de_int de_int) (nomark _)) (dss_one (ds_ret (de_lst (da_cons (de_op op_subD (dv 0) (de_op op_powD de_int de_int)) (da_cons (de_op op_modD (dv 0) de_int) (da_cons (dv 1) da_nil)))))) dss_nil)
        (dss_one (ds_ret (de_lst (da_cons de_int (da_cons (de_op op_modD (dv 0) de_int) (da_cons (dv 1) da_nil))))))), ?_⟩
  rintro ds M Q EX ⟨c, rfl, q⟩
  have e18 : (10 : Int) ^ Int.toNat 18 = 1000000000000000000 := by decide
  have hm := Int.emod_nonneg c (show (2147483579 : Int) ≠ 0 by decide)
  have hl := Int.emod_lt_of_pos c (show (0 : Int) < 2147483579 by decide)
  walk_at "st"
  rw [e18]
  by_cases h : (1000000000000000000 : Int) ≤ c
  · refine k_t (decide_eq_true h) ?_
    walk_at "st"
    intro p hp
    walk_at "st"
    exact fin.same (q p _ hp (Le.new hp) ⟨_, _, _, mset_same, hm, hl, by decide, by decide⟩)
  · refine k_f (decide_eq_false h) ?_
    walk_at "st"
    intro p hp
    walk_at "st"
    exact fin.same (q p _ hp (Le.new hp) ⟨_, _, _, mset_same, hm, hl, by decide, by decide⟩)

abbrev s_law_pick : Stmt := topS 61
theorem sc_law_pick : FnScope ["_law_deck_here", "_law_size", "_law_found", "_law_number"] ["_law_deck_here", "_law_size"] (defScope s_law_pick) := ⟨rfl, rfl, rfl, by decide +kernel, rfl, by decide +kernel, by decide +kernel⟩
def sp_law_pick : DSp := fun ds M Q _ => ∃ (a : Addr) (n : Nat) (size : Int), ds = [.obj a, .int size] ∧ Dk a n M ∧ n ≤ 1000 ∧ 0 < size ∧ size ≤ 1000 ∧ ∀ (v : Int) M', 0 ≤ v → v < size → Dk a (n + 1) M' → Kp a M M' → Q (.int v) M'
theorem ok_law_pick {f : Addr} {fd : FuncData} (m_int : mg "int" = none) (F : Fun K "_law_pick" "_law_pick" s_law_pick f fd) : DFn P w K mg base CX0 1 f fd ["_law_deck_here", "_law_size"] sp_law_pick := by
  refine dfn_ok F sc_law_pick (by walk_at "len") fun cdv A outer s H E hr => ?_
  have hu := hr.units
  refine ⟨_, (dss_cons (ds_if (dt_cmp op_gtD (de_ix hu (dv 0) de_int (fun _ _ => rfl)) de_int (nomark _)) (dss_cons (ds_set (i := 2) sc_law_pick.nd rfl (.inl rfl) (de_op op_modD (de_callTy call_intD (by rfl) m_int (by decide +kernel) (da_cons (de_ix hu (dv 0) de_int (fun _ _ => rfl)) da_nil)) (dv 1)))
        (dss_cons (ds_sub hu (de_op op_fdivD (de_ix hu (dv 0) de_int (fun _ _ => rfl)) (dv 1)) (dv 0) de_int)
        (dss_one (ds_ret (dv 2))))) dss_nil)
        (dss_cons (ds_sub hu (de_op op_addD (de_ix hu (dv 0) de_int (fun _ _ => rfl)) de_int) (dv 0) de_int)
        (dss_cons (ds_set (i := 3) sc_law_pick.nd rfl (.inl rfl) (de_op op_modD (de_op op_powD (de_op op_addD (de_ix hu (dv 0) de_int (fun _ _ => rfl)) (de_op op_mulD de_int (de_ix hu (dv 0) de_int (fun _ _ => rfl)))) de_int) de_int))
        (dss_cons (ds_set (i := 2) sc_law_pick.nd rfl (.inl rfl) (de_op op_fdivD (de_op op_modD (de_op op_powD (de_op op_addD (dv 3) (de_op op_mulD de_int (de_ix hu (dv 0) de_int (fun _ _ => rfl)))) de_int) de_int) de_int))
        (dss_one (ds_ret (de_op op_modD (de_callTy call_intD (by rfl) m_int (by decide +kernel) (da_cons (dv 2) da_nil)) (dv 1)))))))), ?_⟩
  rintro ds M Q EX ⟨a, n, size, rfl, ⟨c, s, t, hM, s0, s1, t0, t1⟩, hn, z0, z1, q⟩
  have hb : 0 ≤ c % size ∧ c % size < size := ⟨Int.emod_nonneg c (by omega), Int.emod_lt_of_pos c z0⟩
  walk_at "st"
  by_cases h : 1 < c
  · refine k_t (decide_eq_true h) ?_
    walk_at "st"
    refine k_rsetl (n := 0) hM (by simp) ?_
    walk_at "st"
    exact fin.same (q _ _ hb.1 hb.2 ⟨_, _, _, mset_same, s0, s1, t0, by omega⟩ Kp.rfl'.at)
  · refine k_f (decide_eq_false h) ?_
    walk_at "st"
    refine k_rsetl (n := 2) hM (by simp) ?_
    walk_at "st"
    refine k_int (C := CPow) (⟨by decide, by decide, by omega⟩) ?_
    walk_at "st"
    generalize hx : (s + 15485867 * (t + 1)) ^ Int.toNat 5 % 2147483647 = x
    have hx0 : 0 ≤ x ∧ x < 2147483647 := by rw [← hx]; exact ⟨Int.emod_nonneg _ (by decide), Int.emod_lt_of_pos _ (by decide)⟩
    refine k_int (C := CPow) (⟨by decide, by decide, by omega⟩) ?_
    walk_at "st"
    exact fin.same (q _ _ (Int.emod_nonneg _ (by omega)) (Int.emod_lt_of_pos _ z0) ⟨_, _, _, mset_same, s0, s1, by omega, by omega⟩ Kp.rfl'.at)

abbrev s_law_one : Stmt := topS 62
theorem sc_law_one : FnScope ["_law_deck_here", "_law_some"] ["_law_deck_here", "_law_some"] (defScope s_law_one) := ⟨rfl, rfl, rfl, by decide +kernel, rfl, by decide +kernel, by decide +kernel⟩
def sp_law_one : DSp := fun ds M Q _ => ∃ (a : Addr) (n : Nat) (b : Addr) (xs : List D), ds = [.obj a, .obj b] ∧ Dk a n M ∧ n ≤ 1000 ∧ M b = some (.lst xs) ∧ b ≠ a ∧ 0 < xs.length ∧ xs.length ≤ 1000 ∧ ∀ d M', d ∈ xs → Dk a (n + 1) M' → Kp a M M' → Q d M'
theorem ok_law_one {f : Addr} {fd : FuncData} (c_law_pick : Cal P w K mg base CX0 "_law_pick" 1 ["_law_deck_here", "_law_size"] sp_law_pick) (m_len : mg "len" = none) (F : Fun K "_law_one" "_law_one" s_law_one f fd) : DFn P w K mg base CX0 2 f fd ["_law_deck_here", "_law_some"] sp_law_one := by
  refine dfn_ok F sc_law_one (by walk_at "len") fun cdv A outer s H E hr => ?_
  have hu := hr.units
  refine ⟨_, (dss_one (ds_ret (de_ix hu (dv 1) (de_cal c_law_pick (hr.mono (by decide)) (by rfl) pass0 (da_cons (dv 0) (da_cons (de_callB call_lenD (by rfl) m_len PySem.boot_len (da_cons (dv 1) da_nil)) da_nil))) (fun _ _ => rfl)))), ?_⟩
  rintro ds M Q EX ⟨a, n, b, xs, rfl, hd, hn, hb, hba, l0, l1, q⟩
  walk_at "st"
  refine ⟨a, n, xs.length, rfl, hd, hn, by omega, by omega, fun v M' v0 v1 d' kp => ?_⟩
  obtain ⟨k, rfl⟩ := Int.eq_ofNat_of_zero_le v0
  have hk : k < xs.length := by omega
  refine k_lix (kp b _ hba hb) (show xs[k]? = some xs[k] from List.getElem?_eq_getElem hk) ?_
  exact fin.same (q _ M' (List.getElem_mem hk) d' kp)

abbrev s_law_tried : Stmt := topS 67
theorem sc_law_tried : FnScope ["_law_deck_here", "_law_first", "_law_second", "_law_one_here"] ["_law_deck_here"] (defScope s_law_tried) := ⟨rfl, rfl, rfl, by decide +kernel, rfl, by decide +kernel, by decide +kernel⟩
def sp_law_tried : DSp := fun ds M Q _ => ∃ (a : Addr) (n : Nat), ds = [.obj a] ∧ Dk a n M ∧ n ≤ 900 ∧ ∀ (ts : List Deed) M', (∀ d ∈ ts, d ≠ .no) → ts.length ≤ 2 → ts.Nodup → Dk a (n + 3) M' → Kp a M M' → Q (.tup (ts.map fun d : Deed => D.str d.s)) M'
theorem ok_law_tried {f : Addr} {fd : FuncData} (c_law_one : Cal P w K mg base CX0 "_law_one" 2 ["_law_deck_here", "_law_some"] sp_law_one) (c_law_pick : Cal P w K mg base CX0 "_law_pick" 1 ["_law_deck_here", "_law_size"] sp_law_pick) (F : Fun K "_law_tried" "_law_tried" s_law_tried f fd) : DFn P w K mg base CX0 3 f fd ["_law_deck_here"] sp_law_tried := by
  refine dfn_ok F sc_law_tried (by walk_at "len") fun cdv A outer s H E hr => ?_
  have hu := hr.units
  refine ⟨_, (dss_cons (ds_set (i := 1) sc_law_tried.nd rfl (.inr rfl) (de_cal c_law_one (hr.mono (by decide)) (by rfl) pass0 (da_cons (dv 0) (da_cons (de_lst (da_cons de_str (da_cons de_str (da_cons de_str (da_cons de_str da_nil))))) da_nil))))
        (dss_cons (ds_set (i := 2) sc_law_tried.nd rfl (.inl rfl) (de_cal c_law_one (hr.mono (by decide)) (by rfl) pass0 (da_cons (dv 0) (da_cons (de_lc (own := [("_law_one_here", 3)]) rfl sc_law_tried.nd (di_list (de_lst (da_cons de_str (da_cons de_str (da_cons de_str (da_cons de_str da_nil)))))) (blkOk_by (own := [("_law_one_here", 3)]) (N := ["_law_deck_here", "_law_first", "_law_second", "_law_one_here"]) (sc := defScope s_law_tried) (by decide +kernel)) (fun _ _ _ _ _ => (dg_name (pg_name (i := 3) sc_law_tried.nd rfl (Or.inl rfl)))) (fun _ _ _ _ _ => (dts_one (dt_cmp (op_neDD hu) (dv 3) (dv 1) (nomark _)))) (fun _ _ _ _ _ => (dv 3))) da_nil))))
        (dss_one (ds_ret (de_ix hu (de_lst (da_cons (de_tup da_nil) (da_cons (de_tup (da_cons (dv 1) da_nil)) (da_cons (de_tup (da_cons (dv 1) da_nil)) (da_cons (de_tup (da_cons (dv 1) (da_cons (dv 2) da_nil))) da_nil))))) (de_cal c_law_pick (hr.mono (by decide)) (by rfl) pass0 (da_cons (dv 0) (da_cons de_int da_nil))) (fun _ _ => rfl)))))), ?_⟩
  rintro ds M Q EX ⟨a, n, rfl, hd, hn, q⟩
  have e4 : [D.str "off", D.str "on", D.str "open", D.str "shut"] = [Deed.off, .on, .opn, .sht].map fun d => D.str d.s := rfl
  walk_at "st"
  intro b hb
  refine ⟨a, n, b, _, rfl, hd.new hb, by omega, mset_same, hd.at hb, by decide, by decide, fun d1 M1 m1 hd1 kp1 => ?_⟩
  rw [e4] at m1
  obtain ⟨x, hx, rfl⟩ := List.mem_map.mp m1
  walk_at "st"
  intro b2 hb2
  walk_at "st"
  rw [e4]
  refine lc_map [Deed.off, .on, .opn, .sht] (fun d => .str d.s) (fun d => if decide (d ≠ x) = true then some (.str d.s) else none) (srcL_ok mset_same) (line3 (by simp)) (fun l acc d hl _ R hR => ?_) fun l hl => ?_
  · refine k_ask rfl ⟨by simp, ?_⟩
    walk_at "st"
    by_cases c : d = x
    · subst c
      rw [decide_eq_true rfl]
      walk_at "st"
      rw [decide_eq_false (fun z => z rfl)] at hR
      exact hR
    · rw [decide_eq_false (fun z => c (deed_inj z))]
      walk_at "st"
      rw [decide_eq_true c] at hR
      exact hR
  walk_at "st"
  have hd2 := (hd1.new hb2 (o := .lst ([Deed.off, .on, .opn, .sht].map fun d => D.str d.s)))
  have e5 : [Deed.off, .on, .opn, .sht].filterMap (fun d => if decide (d ≠ x) = true then some (D.str d.s) else none) = ([Deed.off, .on, .opn, .sht].filter fun d => decide (d ≠ x)).map fun d => D.str d.s := by cases x <;> rfl
  rw [e5] at *
  refine ⟨a, n + 1, l, _, rfl, hd2.new hl, by omega, mset_same, hd2.at hl, ?_, ?_, fun d2 M2 m2 hd3 kp2 => ?_⟩
  · rw [List.length_map]; cases x <;> decide
  · rw [List.length_map]; cases x <;> decide
  obtain ⟨y, hy, rfl⟩ := List.mem_map.mp m2
  have hyx : y ≠ x := by simpa using (List.mem_filter.mp hy).2
  have hyn : y ≠ .no := fun z => by rw [z] at hy; exact absurd (List.mem_filter.mp hy).1 (by decide)
  have hxn : x ≠ .no := fun z => by rw [z] at hx; exact absurd hx (by decide)
  have kp : Kp a M M2 := (((Kp.rfl'.new hb).tr kp1).new hb2 |>.new hl).tr kp2
  walk_at "st"
  intro b3 hb3
  walk_at "st"
  refine ⟨a, n + 2, 4, rfl, hd3.new hb3, by omega, by decide, by decide, fun v M3 v0 v1 hd4 kp3 => ?_⟩
  obtain ⟨k, rfl⟩ := Int.eq_ofNat_of_zero_le v0
  have kpz : Kp a M M3 := (kp.new hb3).tr kp3
  have get := kp3 b3 _ (hd3.at hb3) mset_same
  have fine : ∀ ts : List Deed, (∀ d ∈ ts, d ≠ .no) → ts.length ≤ 2 → ts.Nodup → fin Q (.tup (ts.map fun d : Deed => D.str d.s)) M3 := fun ts a1 a2 a3 => fin.same (q ts M3 a1 a2 a3 hd4 kpz)
  match k, v1 with
  | 0, _ => exact k_lix get rfl (fine [] (by simp) (by simp) (by simp))
  | 1, _ => exact k_lix get rfl (fine [x] (by simpa using hxn) (by simp) (by simp))
  | 2, _ => exact k_lix get rfl (fine [x] (by simpa using hxn) (by simp) (by simp))
  | 3, _ => exact k_lix get rfl (fine [x, y] (by simp [hxn, hyn]) (by simp) (by simpa using Ne.symm hyx))
end
end L3

/-! The law's own: books, houses. -/
namespace L3
open PySem PySem.Spec PyProof.Rows L2
local macro_rules | `(tactic| walk_at "mem") => `(tactic| first | assumption | exact mset_same | (refine (mset_ne ?_).trans ?_ <;> first | assumption | exact Ne.symm (by assumption) | exact mset_same | (refine (mset_ne ?_).trans ?_ <;> first | assumption | exact Ne.symm (by assumption) | exact mset_same)))
local macro_rules | `(tactic| walk_at "line") => `(tactic| first | decide | (simp only [List.length_cons, List.length_nil, List.length_map, List.length_append]; first | decide | omega) | (refine sl_b ?_; simp only [List.length_cons, List.length_nil, List.length_map, List.length_append]; first | decide | omega))
local macro_rules | `(tactic| walk_at "s1") => `(tactic| first
  | ((with_reducible refine' k_var ?g0 ?_); (case g0 => exact rfl))
  | ((with_reducible refine' k_seqN ?g0 ?_); (case g0 => (try simp only [startD, g_cons, g_nil, List.map_cons, List.map_nil, List.length_cons, List.length_nil, Nat.reduceAdd, Nat.reduceSub, List.replicate_succ, List.replicate_zero, List.cons_append, List.nil_append, List.set_cons_zero, List.set_cons_succ, List.zip_cons_cons, List.zip_nil_right, List.zip_nil_left]); try exact rfl))
  | ((with_reducible refine' k_retN ?g0 ?_); (case g0 => (try simp only [startD, g_cons, g_nil, List.map_cons, List.map_nil, List.length_cons, List.length_nil, Nat.reduceAdd, Nat.reduceSub, List.replicate_succ, List.replicate_zero, List.cons_append, List.nil_append, List.set_cons_zero, List.set_cons_succ, List.zip_cons_cons, List.zip_nil_right, List.zip_nil_left]); try exact rfl))
  | (with_reducible refine k_nedev ?_)
  | (with_reducible refine k_ifS ?_)
  | (with_reducible refine k_next ?_)
  | (with_reducible refine k_drop ?_)
  | (with_reducible refine k_set ?_)
  | (with_reducible refine k_asg ?_)
  | (with_reducible refine k_sub ?_)
  | (with_reducible refine k_par ?_)
  | (with_reducible refine k_asP ?_)
  | (with_reducible refine k_par3 ?_)
  | (with_reducible refine k_asP3 ?_)
  | (with_reducible refine k_aug ?_)
  | (with_reducible refine k_for ?_)
  | (with_reducible refine k_B ?_)
  | (with_reducible refine k_asB ?_)
  | (with_reducible refine k_and ?_)
  | (with_reducible refine k_or ?_)
  | (with_reducible refine k_not ?_)
  | (with_reducible refine k_andV ?_)
  | (with_reducible refine k_orV ?_)
  | (with_reducible refine k_notV ?_)
  | (with_reducible refine k_chain ?_)
  | (with_reducible refine k_yes ?_)
  | (with_reducible refine k_if ?_)
  | (with_reducible refine k_c ?_)
  | (with_reducible refine k_op ?_)
  | (with_reducible refine k_nil ?_)
  | (with_reducible refine k_cons ?_)
  | (with_reducible refine k_tup ?_)
  | (with_reducible refine k_lst ?_)
  | (with_reducible refine k_call ?_)
  | (with_reducible refine k_fn ?_)
  | (with_reducible refine k_sl ?_)
  | (with_reducible refine k_app ?_)
  | (with_reducible refine k_pop ?_)
  | (with_reducible refine k_it ?_)
  | (with_reducible refine k_ik ?_)
  | (with_reducible refine k_il ?_)
  | (with_reducible refine k_ir ?_)
  | (with_reducible refine k_lc ?_)
  | (with_reducible refine k_addi ?_)
  | (with_reducible refine k_iaddi ?_)
  | (with_reducible refine k_eqi ?_)
  | (with_reducible refine k_nei ?_)
  | (with_reducible refine k_eqs ?_)
  | (with_reducible refine k_nes ?_)
  | (with_reducible refine k_eqb ?_)
  | (with_reducible refine k_neb ?_)
  | (with_reducible refine k_eqst ?_)
  | (with_reducible refine k_isN ?_)
  | (with_reducible refine k_notN ?_)
  | (with_reducible refine k_rsls ?_)
  | (with_reducible refine k_rsl ?_)
  | (with_reducible refine k_lent ?_)
  | (with_reducible refine k_i2 ?_)
  | (with_reducible refine k_toi ?_)
  | (with_reducible refine k_tob ?_)
  | (with_reducible refine k_itw ?_)
  | (with_reducible refine k_itt ?_)
  | (with_reducible refine k_lc2 ?_)
  | (with_reducible refine k_get ?_)
  | (with_reducible refine k_dc ?_)
  | ((with_reducible refine' k_ask ?g0 ?_); (case g0 => exact rfl))
  | ((with_reducible refine' k_ix ?g0 ?_); (case g0 => exact rfl))
  | ((with_reducible refine' k_lix ?g0 ?g1 ?_); (case g0 => walk_at "mem"); (case g1 => exact rfl))
  | ((with_reducible refine' k_int ?g0 ?_); (case g0 => first | exact trivial | exact cm2 | (show (0 : Int) < _; omega) | (show CMul _ _; exact .inl ⟨by omega, by omega⟩) | (show CMul _ _; exact .inr ⟨by omega, by omega⟩) | (show CDiv _ _; exact ⟨by omega, by omega⟩) | exact ⟨by decide, by decide⟩))
  | ((with_reducible refine' k_addt ?g0 ?_); (case g0 => walk_at "line"))
  | ((with_reducible refine' sl_s ?g0 ?_); (case g0 => walk_at "line"))
  | ((with_reducible refine' k_inT ?g0 ?g1 ?_); (case g0 => exact rfl); (case g1 => exact rfl))
  | ((with_reducible refine' k_ninT ?g0 ?g1 ?_); (case g0 => exact rfl); (case g1 => exact rfl))
  | ((with_reducible refine' k_inL ?g0 ?g1 ?g2 ?_); (case g0 => walk_at "mem"); (case g1 => exact rfl); (case g2 => exact rfl))
  | ((with_reducible refine' k_ninL ?g0 ?g1 ?g2 ?_); (case g0 => walk_at "mem"); (case g1 => exact rfl); (case g2 => exact rfl))
  | ((with_reducible refine' k_lenl ?g0 ?_); (case g0 => walk_at "mem"))
  | ((with_reducible refine' k_ninD ?g0 ?_); (case g0 => walk_at "mem"))
  | ((with_reducible refine' k_inD ?g0 ?_); (case g0 => walk_at "mem"))
  | ((with_reducible refine' k_rik ?g0 ?_); (case g0 => walk_at "mem"))
  | ((with_reducible refine' k_ril ?g0 ?_); (case g0 => walk_at "mem"))
  | ((with_reducible refine' k_isi ?g0 ?g1 ?_); (case g0 => exact rfl); (case g1 => exact rfl))
  | ((with_reducible refine' k_isl ?g0 ?_); (case g0 => walk_at "mem"))
  | ((with_reducible refine' k_rget ?g0 ?_); (case g0 => walk_at "mem"))
  | ((with_reducible refine' k_dix ?g0 ?g1 ?_); (case g0 => walk_at "mem"); (case g1 => assumption))
  | ((with_reducible refine' k_iaddl ?g0 ?g1 ?g2 ?_); (case g0 => walk_at "mem"); (case g1 => walk_at "mem"); (case g2 => walk_at "line"))
  | ((with_reducible refine' k_addl ?g0 ?g1 ?g2 ?_); (case g0 => walk_at "mem"); (case g1 => walk_at "mem"); (case g2 => walk_at "line"))
  | ((with_reducible refine' k_rall ?g0 ?g1 ?_); (case g0 => walk_at "mem"); (case g1 => exact rfl))
  | ((with_reducible refine' k_tot ?g0 ?_); (case g0 => walk_at "mem"))
  | ((with_reducible refine' k_t ?g0 ?_); (case g0 => exact rfl))
  | ((with_reducible refine' k_f ?g0 ?_); (case g0 => exact rfl)))
local macro_rules | `(tactic| walk_at "st") => `(tactic| (repeat (walk_at "s1")); try dsimp only)
local macro_rules | `(tactic| walk_at "c") => `(tactic| try simp only [inV_two, d_no, d_on, d_off, d_open, d_shut, d_no', d_on', d_off', d_open', d_shut', w_cold, w_cold', v_heat, reduceCtorEq, decide_true, decide_false, Bool.or_false, Bool.false_or, Bool.or_true, Bool.true_or, Bool.not_true, Bool.not_false, Bool.false_eq_true, Bool.true_eq_false, if_true, if_false, reduceIte])
local macro_rules | `(tactic| walk_at "len") => `(tactic| (intro ds M Q EX h; repeat (obtain ⟨x, h⟩ := h; try (subst x; exact rfl))))
def linesD (ls : List Line) : D := .tup (ls.map lineD)
section
variable {P : Program} {w : World} {K : PySem.W.Frag} {mg : Str → Option Value} {base : Heap}
abbrev s_law_book : Stmt := topS 68
theorem sc_law_book : FnScope ["_law_deck_here", "_law_most", "_law_many", "_law_found", "_law_turn", "_law_lines", "_law_feeling"] ["_law_deck_here", "_law_most"] (defScope s_law_book) := ⟨rfl, rfl, rfl, by decide +kernel, rfl, by decide +kernel, by decide +kernel⟩
def sp_law_book : DSp := fun ds M Q _ => ∃ (a : Addr) (n : Nat) (m : Nat), ds = [.obj a, .int (.ofNat m)] ∧ Dk a n M ∧ n ≤ 800 ∧ 1 ≤ m ∧ m ≤ 3 ∧ ∀ (b : List Page) M', 1 ≤ b.length → b.length ≤ m → (∀ p ∈ b, p.Ok b.length) → Dk a (n + 50) M' → Kp a M M' → Q (bookD b) M'
theorem ok_law_book {f : Addr} {fd : FuncData} (c_law_pick : Cal P w K mg base CX0 "_law_pick" 1 ["_law_deck_here", "_law_size"] sp_law_pick) (c_law_tried : Cal P w K mg base CX0 "_law_tried" 3 ["_law_deck_here"] sp_law_tried) (m_range : mg "range" = none) (F : Fun K "_law_book" "_law_book" s_law_book f fd) : DFn P w K mg base CX0 4 f fd ["_law_deck_here", "_law_most"] sp_law_book := by
  refine dfn_ok F sc_law_book (by walk_at "len") fun cdv A outer s H E hr => ?_
  have hu := hr.units
  refine ⟨_, (dss_cons (ds_par (i := 2) (j := 3) (ps_par (by rfl) sc_law_book.nd rfl rfl (by decide) rfl rfl (da_cons (de_op op_addD de_int (de_cal c_law_pick (hr.mono (by decide)) (by rfl) pass0 (da_cons (dv 0) (da_cons (dv 1) da_nil)))) (da_cons (de_tup da_nil) da_nil)) (by rfl)))
        (dss_cons (ds_for PassesOwn.never rfl (di_range (by rfl) m_range (da_cons (dv 2) da_nil)) (dg_name (pg_name (i := 4) sc_law_book.nd rfl (Or.inl rfl))) (dss_cons (ds_set (i := 5) sc_law_book.nd rfl (.inl rfl) (de_tup da_nil))
        (dss_cons (ds_for PassesOwn.never rfl (di_range (by rfl) m_range (da_cons de_int da_nil)) (dg_name (pg_name (i := 6) sc_law_book.nd rfl (Or.inl rfl))) (dss_one (ds_set (i := 5) sc_law_book.nd rfl (.inl rfl) (de_op op_addD (dv 5) (de_tup (da_cons (de_tup (da_cons (de_cal c_law_tried (hr.mono (by decide)) (by rfl) pass0 (da_cons (dv 0) da_nil)) (da_cons (de_cal c_law_pick (hr.mono (by decide)) (by rfl) pass0 (da_cons (dv 0) (da_cons (dv 2) da_nil))) da_nil))) da_nil))))))
        (dss_one (ds_set (i := 3) sc_law_book.nd rfl (.inl rfl) (de_op op_addD (dv 3) (de_tup (da_cons (dv 5) da_nil))))))))
        (dss_one (ds_ret (dv 3))))), ?_⟩
  rintro ds M Q EX ⟨a, n, m, rfl, hd, hn, m1, m2, q⟩
  walk_at "st"
  refine ⟨a, n, m, rfl, hd, by omega, show (0 : Int) < (m : Int) by omega, show (m : Int) ≤ 1000 by omega, fun v M1 v0 v1 hd1 kp1 => ?_⟩
  obtain ⟨k, rfl⟩ := Int.eq_ofNat_of_zero_le v0
  have hk : k < m := by have := v1; omega
  walk_at "st"
  have ek : (1 + (k : Int)) = Int.ofNat (k + 1) := by show 1 + (k : Int) = ((k + 1 : Nat) : Int); omega
  rw [ek]
  generalize hN : k + 1 = N
  have hN3 : N ≤ m := by omega
  refine k_asR (show -(2 ^ 62) ≤ (N : Int) by omega) (show (N : Int) < 2 ^ 62 by omega) ?_
  refine ⟨(List.range N).map fun (i : Nat) => D.int i, fun i Γ' M' => i ≤ N ∧ ∃ b : List Page, b.length = i ∧ (∀ p ∈ b, p.Ok N) ∧ Dk a (n + 1 + 12 * i) M' ∧ Kp a M M' ∧ ∃ x4 x5 x6, Γ' = [some (.obj a), some (.int (.ofNat m)), some (.int (.ofNat N)), some (bookD b), x4, x5, x6],
    fun _ _ _ _ => rfl, ⟨Nat.zero_le _, [], rfl, by simp, hd1.mono (by omega), kp1, _, _, _, rfl⟩, fun i d Γ' M' hi ⟨_, b, bl, bo, hd2, kp2, x4, x5, x6, eΓ⟩ => ?_, fun Γ' M' ⟨_, b, bl, bo, hd2, kp2, x4, x5, x6, eΓ⟩ => ?_⟩
  · subst eΓ
    have hiN : i < N := by
      have := ((List.getElem?_eq_some_iff.mp hi)).1
      rw [List.length_map, List.length_range] at this
      exact this
    refine k_ask rfl ?_
    walk_at "st"
    refine k_asR (by decide) (by decide) ?_
    refine ⟨(List.range 3).map fun (i : Nat) => D.int i, fun j Γ' M' => j ≤ 3 ∧ ∃ ls : List Line, ls.length = j ∧ (∀ l ∈ ls, l.Ok N) ∧ Dk a (n + 1 + 12 * i + 4 * j) M' ∧ Kp a M M' ∧ ∃ x4 x6, Γ' = [some (.obj a), some (.int (.ofNat m)), some (.int (.ofNat N)), some (bookD b), x4, some (linesD ls), x6],
      fun _ _ _ _ => rfl, ⟨Nat.zero_le _, [], rfl, by simp, hd2.mono (by omega), kp2, _, _, rfl⟩, fun j d2 Γ' M' hj ⟨_, ls, ll, lo, hd3, kp3, x4, x6, eΓ⟩ => ?_, fun Γ' M' ⟨_, ls, ll, lo, hd3, kp3, x4, x6, eΓ⟩ => ?_⟩
    · subst eΓ
      have hj3 : j < 3 := by
        have := (List.getElem?_eq_some_iff.mp hj).1
        simpa using this
      refine k_ask rfl ?_
      walk_at "st"
      refine ⟨a, _, rfl, hd3, by omega, fun ts M4 t1 t2 t3 hd4 kp4 => ?_⟩
      walk_at "st"
      refine ⟨a, _, N, rfl, hd4, by omega, show (0 : Int) < (N : Int) by omega, show (N : Int) ≤ 1000 by omega, fun v M5 v0 v1 hd5 kp5 => ?_⟩
      obtain ⟨to, rfl⟩ := Int.eq_ofNat_of_zero_le v0
      have hto : to < N := by have := v1; omega
      unfold linesD
      walk_at "st"
      refine ⟨by omega, ls ++ [⟨ts, to⟩], by simp [ll], fun l hl => ?_, hd5.mono (by omega), (kp3.tr kp4).tr kp5, x4, some d2, ?_⟩
      · rcases List.mem_append.mp hl with hl | hl
        · exact lo l hl
        · rw [List.mem_singleton.mp hl]
          exact ⟨t1, t2, t3, hto⟩
      · rw [List.map_append]
        rfl
    · subst eΓ
      simp only [List.length_map, List.length_range] at ll hd3
      unfold linesD bookD
      walk_at "st"
      match ls, ll, lo with
      | [l1, l2, l3], _, lo =>
        refine ⟨by omega, b ++ [⟨l1, l2, l3⟩], by simp [bl], fun p hp => ?_, hd3.mono (by omega), kp3, x4, some (linesD [l1, l2, l3]), x6, ?_⟩
        · obtain hp | hp := List.mem_append.mp hp
          · exact bo p hp
          · rw [(List.mem_singleton.mp hp)]
            exact ⟨lo _ (by simp), lo _ (by simp), lo _ (by simp)⟩
        · rw [List.map_append]
          rfl
  · subst eΓ
    rw [List.length_map, List.length_range] at bl hd2
    walk_at "st"
    exact fin.same (q b M' (by omega) (by omega) (by rw [bl]; exact bo) (hd2.mono (by omega)) kp2)

abbrev s_law_warm : Stmt := topS 69
theorem sc_law_warm : FnScope ["_law_deck_here", "_law_cold", "_law_hot"] ["_law_deck_here"] (defScope s_law_warm) := ⟨rfl, rfl, rfl, by decide +kernel, rfl, by decide +kernel, by decide +kernel⟩
def sp_law_warm : DSp := fun ds M Q _ => ∃ (a : Addr) (n : Nat), ds = [.obj a] ∧ Dk a n M ∧ n ≤ 900 ∧ ∀ (b : List Page) M', b.length = 1 → (∀ p ∈ b, p.Ok b.length) → Dk a (n + 50) M' → Kp a M M' → Q (bookD b) M'
theorem ok_law_warm {f : Addr} {fd : FuncData} (c_law_one : Cal P w K mg base CX0 "_law_one" 2 ["_law_deck_here", "_law_some"] sp_law_one) (F : Fun K "_law_warm" "_law_warm" s_law_warm f fd) : DFn P w K mg base CX0 3 f fd ["_law_deck_here"] sp_law_warm := by
  refine dfn_ok F sc_law_warm (by walk_at "len") fun cdv A outer s H E hr => ?_
  have hu := hr.units
  refine ⟨_, (dss_cons (ds_set (i := 1) sc_law_warm.nd rfl (.inl rfl) (de_cal c_law_one (hr.mono (by decide)) (by rfl) pass0 (da_cons (dv 0) (da_cons (de_lst (da_cons (de_tup (da_cons de_str (da_cons de_str da_nil))) (da_cons (de_tup (da_cons de_str da_nil)) (da_cons (de_tup (da_cons de_str (da_cons de_str da_nil))) (da_cons (de_tup (da_cons de_str da_nil)) da_nil))))) da_nil))))
        (dss_cons (ds_set (i := 2) sc_law_warm.nd rfl (.inl rfl) (de_cal c_law_one (hr.mono (by decide)) (by rfl) pass0 (da_cons (dv 0) (da_cons (de_lst (da_cons (de_tup (da_cons de_str (da_cons de_str da_nil))) (da_cons (de_tup (da_cons de_str da_nil)) (da_cons (de_tup (da_cons de_str da_nil)) (da_cons (de_tup (da_cons de_str (da_cons de_str da_nil))) da_nil))))) da_nil))))
        (dss_one (ds_ret (de_tup (da_cons (de_tup (da_cons (de_tup (da_cons (dv 1) (da_cons de_int da_nil))) (da_cons (de_tup (da_cons (dv 2) (da_cons de_int da_nil))) (da_cons (de_tup (da_cons (de_tup da_nil) (da_cons de_int da_nil))) da_nil)))) da_nil)))))), ?_⟩
  rintro ds M Q EX ⟨a, n, rfl, hd, hn, q⟩
  have e1 : [D.tup [D.str "on", D.str "shut"], .tup [.str "on"], .tup [.str "shut", .str "on"], .tup [.str "shut"]] = [[Deed.on, .sht], [.on], [.sht, .on], [.sht]].map fun ts => D.tup (ts.map fun d => D.str d.s) := rfl
  have e2 : [D.tup [D.str "open", D.str "off"], .tup [.str "off"], .tup [.str "open"], .tup [.str "off", .str "open"]] = [[Deed.opn, .off], [.off], [.opn], [.off, .opn]].map fun ts => D.tup (ts.map fun d => D.str d.s) := rfl
  walk_at "st"
  intro b hb
  refine ⟨a, n, b, _, rfl, hd.new hb, by omega, mset_same, hd.at hb, by simp, by simp, fun d1 M1 m1 hd1 kp1 => ?_⟩
  rw [e1] at m1
  obtain ⟨x, hx, rfl⟩ := List.mem_map.mp m1
  walk_at "st"
  intro b2 hb2
  refine ⟨a, n + 1, b2, _, rfl, hd1.new hb2, by omega, mset_same, hd1.at hb2, by simp, by simp, fun d2 M2 m2 hd2 kp2 => ?_⟩
  rw [e2] at m2
  obtain ⟨y, hy, rfl⟩ := List.mem_map.mp m2
  walk_at "st"
  refine fin.same (q [⟨⟨x, 0⟩, ⟨y, 0⟩, ⟨[], 0⟩⟩] M2 rfl (fun p hp => ?_) (hd2.mono (by omega)) (((Kp.rfl'.new hb).tr kp1).new hb2 |>.tr kp2))
  rw [List.mem_singleton.mp hp]
  have L : ∀ ts : List Deed, (∀ d ∈ ts, d ≠ .no) ∧ ts.length ≤ 2 ∧ ts.Nodup → Line.Ok ⟨ts, 0⟩ 1 := fun ts z => ⟨z.1, z.2.1, z.2.2, Nat.one_pos⟩
  refine ⟨L x ?_, L y ?_, L [] ⟨by simp, by simp, by simp⟩⟩
  · simp only [List.mem_cons, List.not_mem_nil, or_false] at hx
    rcases hx with rfl | rfl | rfl | rfl <;> decide
  · simp only [List.mem_cons, List.not_mem_nil, or_false] at hy
    rcases hy with rfl | rfl | rfl | rfl <;> decide

abbrev s_law_house : Stmt := topS 70
theorem sc_law_house : FnScope ["_law_deck_here", "_law_most", "_law_pages", "_law_top", "_law_losses", "_law_weathers_so", "_law_people", "_law_who", "_law_low", "_law_high", "_law_book_here", "_law_turn"] ["_law_deck_here", "_law_most", "_law_pages"] (defScope s_law_house) := ⟨rfl, rfl, rfl, by decide +kernel, rfl, by decide +kernel, by decide +kernel⟩
theorem toIs_ints : ∀ ns : List Int, toIs (ns.map D.int) = some ns
  | [] => rfl
  | n :: ns => by rw [List.map_cons, toIs, toIs_ints ns]
def sp_law_house : DSp := fun ds M Q _ => ∃ (a : Addr) (n : Nat), ds = [.obj a, .int 3, .int 2] ∧ Dk a n M ∧ n ≤ 600 ∧ ∀ (h : House) M', h.Ok → Kp a M M' → Q (houseD h) M'
theorem ok_law_house {f : Addr} {fd : FuncData} (c_law_one : Cal P w K mg base CX0 "_law_one" 2 ["_law_deck_here", "_law_some"] sp_law_one) (c_law_pick : Cal P w K mg base CX0 "_law_pick" 1 ["_law_deck_here", "_law_size"] sp_law_pick) (c_law_warm : Cal P w K mg base CX0 "_law_warm" 3 ["_law_deck_here"] sp_law_warm) (c_law_book : Cal P w K mg base CX0 "_law_book" 4 ["_law_deck_here", "_law_most"] sp_law_book) (m_tuple : mg "tuple" = none) (m_range : mg "range" = none) (m_sorted : mg "sorted" = none) (F : Fun K "_law_house" "_law_house" s_law_house f fd) : DFn P w K mg base CX0 5 f fd ["_law_deck_here", "_law_most", "_law_pages"] sp_law_house := by
  refine dfn_ok F sc_law_house (by walk_at "len") fun cdv A outer s H E hr => ?_
  have hu := hr.units
  refine ⟨_, (dss_cons (ds_set (i := 3) sc_law_house.nd rfl (.inl rfl) (de_op op_addD de_int (de_cal c_law_pick (hr.mono (by decide)) (by rfl) pass0 (da_cons (dv 0) (da_cons (de_op op_subD (dv 1) de_int) da_nil)))))
        (dss_cons (ds_set (i := 4) sc_law_house.nd rfl (.inl rfl) (de_callTy call_tupD (by rfl) m_tuple (by decide +kernel) (da_cons (de_callB call_sortI (by rfl) m_sorted (by decide +kernel) (da_cons (de_lc (own := [("_law_turn", 11)]) rfl sc_law_house.nd (di_range (by rfl) m_range (da_cons de_int da_nil)) (blkOk_by (own := [("_law_turn", 11)]) (N := ["_law_deck_here", "_law_most", "_law_pages", "_law_top", "_law_losses", "_law_weathers_so", "_law_people", "_law_who", "_law_low", "_law_high", "_law_book_here", "_law_turn"]) (sc := defScope s_law_house) (by decide +kernel)) (fun _ _ _ _ _ => (dg_name (pg_name (i := 11) sc_law_house.nd rfl (Or.inl rfl)))) (fun _ _ _ _ _ => dts_nil) (fun _ _ _ _ _ => (de_cal c_law_pick (hr.mono (by decide)) (by rfl) pass0 (da_cons (dv 0) (da_cons de_int da_nil))))) da_nil)) da_nil)))
        (dss_cons (ds_set (i := 5) sc_law_house.nd rfl (.inl rfl) (de_cal c_law_one (hr.mono (by decide)) (by rfl) pass0 (da_cons (dv 0) (da_cons (de_lst (da_cons (de_tup (da_cons de_str da_nil)) (da_cons (de_tup (da_cons de_str da_nil)) (da_cons (de_tup (da_cons de_str (da_cons de_str da_nil))) (da_cons (de_tup (da_cons de_str (da_cons de_str da_nil))) da_nil))))) da_nil))))
        (dss_cons (ds_set (i := 6) sc_law_house.nd rfl (.inl rfl) (de_tup da_nil))
        (dss_cons (ds_for PassesOwn.never rfl (di_range (by rfl) m_range (da_cons de_int da_nil)) (dg_name (pg_name (i := 7) sc_law_house.nd rfl (Or.inl rfl))) (dss_cons (ds_set (i := 8) sc_law_house.nd rfl (.inl rfl) (de_cal c_law_pick (hr.mono (by decide)) (by rfl) pass0 (da_cons (dv 0) (da_cons (de_op op_addD (dv 3) de_int) da_nil))))
        (dss_cons (ds_set (i := 9) sc_law_house.nd rfl (.inl rfl) (de_op op_addD (dv 8) (de_cal c_law_pick (hr.mono (by decide)) (by rfl) pass0 (da_cons (dv 0) (da_cons (de_op op_addD (de_op op_subD (dv 3) (dv 8)) de_int) da_nil)))))
        (dss_cons (ds_set (i := 10) sc_law_house.nd rfl (.inl rfl) (de_if (dt_cmp (op_eqDD hu) (de_cal c_law_pick (hr.mono (by decide)) (by rfl) pass0 (da_cons (dv 0) (da_cons de_int da_nil))) de_int (nomark _)) (de_cal c_law_warm (hr.mono (by decide)) (by rfl) pass0 (da_cons (dv 0) da_nil)) (de_cal c_law_book (hr.mono (by decide)) (by rfl) pass0 (da_cons (dv 0) (da_cons (dv 2) da_nil)))))
        (dss_one (ds_set (i := 6) sc_law_house.nd rfl (.inl rfl) (de_op op_addD (dv 6) (de_tup (da_cons (de_tup (da_cons (de_op op_addD de_int (de_cal c_law_pick (hr.mono (by decide)) (by rfl) pass0 (da_cons (dv 0) (da_cons de_int da_nil)))) (da_cons (dv 8) (da_cons (dv 9) (da_cons (dv 10) da_nil))))) da_nil)))))))))
        (dss_one (ds_ret (de_tup (da_cons (de_tup (da_cons (dv 3) (da_cons (de_op op_addD de_int (de_cal c_law_pick (hr.mono (by decide)) (by rfl) pass0 (da_cons (dv 0) (da_cons de_int da_nil)))) (da_cons (dv 4) da_nil)))) (da_cons (dv 5) (da_cons (dv 6) da_nil))))))))))), ?_⟩
  rintro ds M Q EX ⟨a, n, rfl, hd, hn, q⟩
  have e1 : [D.tup [D.str "cold"], .tup [.str "mild"], .tup [.str "cold", .str "mild"], .tup [.str "cold", .str "mild"]] = [[Wth.cold], [.mild], [.cold, .mild], [.cold, .mild]].map fun ws => D.tup (ws.map fun w => D.str w.s) := rfl
  walk_at "st"
  refine ⟨a, n, 2, rfl, hd, by omega, by decide, by decide, fun v M1 v0 v1 hd1 kp1 => ?_⟩
  walk_at "st"
  generalize ht : 2 + v = top
  have t2 : 2 ≤ top ∧ top ≤ 3 := by omega
  refine k_asR (by decide) (by decide) ?_
  -- the losses
  intro l hl
  refine ⟨(List.range 4).map fun (i : Nat) => D.int i, fun i M' => i ≤ 4 ∧ ∃ xs : List Int, xs.length = i ∧ (∀ x ∈ xs, 0 ≤ x ∧ x ≤ 3) ∧ M' l = some (.lst (xs.map D.int)) ∧ Dk a (n + 1 + i) M' ∧ Kp a M M', fun _ _ _ => rfl,
    ⟨Nat.zero_le _, [], rfl, by simp, mset_same, hd1.new hl, kp1.new hl⟩, fun i d M2 hi ⟨_, xs, xl, xo, hM, hd2, kp2⟩ => ?_, fun M2 ⟨_, xs, xl, xo, hM, hd2, kp2⟩ => ?_⟩
  · have hi4 : i < 4 := by
      have := ((List.getElem?_eq_some_iff.mp hi)).1
      simpa using this
    refine k_ask rfl ⟨by simp, ?_⟩
    walk_at "st"
    have hla : l ≠ a := hd1.at hl
    refine ⟨a, _, 4, rfl, hd2, by omega, by decide, by decide, fun u M3 u0 u1 hd3 kp3 => ?_⟩
    dsimp only
    rw [kp3 l _ hla hM]
    refine ⟨line3 (by rw [List.length_map]; omega), by omega, xs ++ [u], by simp [xl], fun x hx => ?_, ?_, ?_, ?_⟩
    · obtain hx | hx := List.mem_append.mp hx
      · exact xo x hx
      · rw [List.mem_singleton.mp hx]; omega
    · rw [mset_same, List.map_append]; rfl
    · obtain ⟨c, s, t, z, r⟩ := hd3
      exact ⟨c, s, t, (mset_ne (Ne.symm hla)).trans z, r⟩
    · exact fun b o hb e => by
        have := (kp2.tr kp3) b o hb e
        rw [mset_ne (fun z => ?_)]
        · exact this
        · have z0 := kp1 b o hb e
          rw [z, hl] at z0
          cases z0
  rw [List.length_map, List.length_range] at xl hd2
  walk_at "st"
  refine k_sortI hM (toIs_ints xs) (by omega) fun ys py _ p hp => ?_
  walk_at "st"
  match ys, (py.length_eq.trans xl), (fun y (hy : y ∈ ys) => xo y (py.mem_iff.mp hy)) with
  | [y0, y1, y2, y3], _, yo =>
  have q0 := yo y0 (by simp)
  have q1 := yo y1 (by simp)
  have q2 := yo y2 (by simp)
  have q3 := yo y3 (by simp)
  have hd3 := hd2.new hp (o := .lst ([y0, y1, y2, y3].map D.int))
  have kp3 := kp2.new hp (u := .lst ([y0, y1, y2, y3].map D.int))
  have hL : mset M2 p (.lst ([y0, y1, y2, y3].map D.int)) p = some (.lst ([y0, y1, y2, y3].map D.int)) := mset_same
  generalize mset M2 p (.lst ([y0, y1, y2, y3].map D.int)) = M3 at *
  intro b hb
  refine ⟨a, _, b, _, rfl, hd3.new hb, by omega, mset_same, hd3.at hb, by simp, by simp, fun d1 M4 m1 hd4 kp4 => ?_⟩
  rw [e1] at m1
  obtain ⟨ws, hws, rfl⟩ := List.mem_map.mp m1
  have wo : ws = [.cold] ∨ ws = [.mild] ∨ ws = [.cold, .mild] := by
    simp only [List.mem_cons, List.not_mem_nil, or_false] at hws
    rcases hws with rfl | rfl | rfl | rfl <;> simp
  have kp4' : Kp a M M4 := (kp3.new hb).tr kp4
  walk_at "st"
  refine k_asR (by decide) (by decide) ?_
  refine ⟨(List.range 2).map fun (i : Nat) => D.int i, fun i Γ' M' => i ≤ 2 ∧ ∃ ps : List Pers, ps.length = i ∧ (∀ p ∈ ps, p.Ok top) ∧ Dk a (n + 6 + 60 * i) M' ∧ Kp a M M' ∧ ∃ x7 x8 x9 x10 x11, Γ' = [some (.obj a), some (.int 3), some (.int 2), some (.int top), some (.tup ([y0, y1, y2, y3].map D.int)), some (.tup (ws.map fun w => D.str w.s)), some (.tup (ps.map persD)), x7, x8, x9, x10, x11],
    fun _ _ _ _ => rfl, ⟨Nat.zero_le _, [], rfl, by simp, hd4.mono (by omega), kp4', _, _, _, _, _, rfl⟩, fun i d Γ' M' hi ⟨_, ps, pl, po, hd5, kp5, x7, x8, x9, x10, x11, eΓ⟩ => ?_, fun Γ' M' ⟨_, ps, pl, po, hd5, kp5, x7, x8, x9, x10, x11, eΓ⟩ => ?_⟩
  · subst eΓ
    have hi2 : i < 2 := by
      have := ((List.getElem?_eq_some_iff.mp hi)).1
      simpa using this
    refine k_ask rfl ?_
    walk_at "st"
    refine ⟨a, _, _, rfl, hd5, by omega, by omega, by omega, fun low M6 l0 l1 hd6 kp6 => ?_⟩
    walk_at "st"
    refine ⟨a, _, _, rfl, hd6, by omega, by omega, by omega, fun hig M7 g0 g1 hd7 kp7 => ?_⟩
    walk_at "st"
    refine ⟨a, _, 2, rfl, hd7, by omega, by decide, by decide, fun cc M8 c0 c1 hd8 kp8 => ?_⟩
    have hc : cc = 0 ∨ cc = 1 := by omega
    have kz : Kp a M M8 := ((kp5.tr kp6).tr kp7).tr kp8
    have fin0 : ∀ (bk : List Page) (g : Int), 1 ≤ bk.length → bk.length ≤ 2 → (∀ p ∈ bk, p.Ok bk.length) → 0 ≤ g → g < 2 → ∀ p ∈ ps ++ [⟨1 + g, low, low + hig, bk⟩], p.Ok top := fun bk g z1 z2 z3 z4 z5 p hp => by
      obtain hp | hp := List.mem_append.mp hp
      · exact po p hp
      · rw [(List.mem_singleton.mp hp)]
        exact ⟨by show 1 + g = 1 ∨ 1 + g = 2; omega, ⟨l0, by show low ≤ low + hig; omega⟩, by show low + hig ≤ top; omega, ⟨z1, by show bk.length ≤ 3; omega⟩, z3⟩
    rcases hc with rfl | rfl
    · walk_at "st"
      refine ⟨a, _, rfl, hd8, by omega, fun bk M9 b1 b2 hd9 kp9 => ?_⟩
      walk_at "st"
      refine ⟨a, _, 2, rfl, hd9, by omega, by decide, by decide, fun g M10 z0 z1 hd10 kp10 => ?_⟩
      walk_at "st"
      refine ⟨by omega, ps ++ [⟨1 + g, low, low + hig, bk⟩], by simp [pl], fin0 bk g (by omega) (by omega) b2 z0 z1, hd10.mono (by omega), (kz.tr kp9).tr kp10, some d, some (.int low), some (.int (low + hig)), some (bookD bk), x11, ?_⟩
      rw [List.map_append]
      rfl
    · walk_at "st"
      refine ⟨a, _, 2, rfl, hd8, by omega, by decide, by decide, fun bk M9 b1 b1' b2 hd9 kp9 => ?_⟩
      walk_at "st"
      refine ⟨a, _, 2, rfl, hd9, by omega, by decide, by decide, fun g M10 z0 z1 hd10 kp10 => ?_⟩
      walk_at "st"
      refine ⟨by omega, ps ++ [⟨1 + g, low, low + hig, bk⟩], by simp [pl], fin0 bk g b1 b1' b2 z0 z1, hd10.mono (by omega), (kz.tr kp9).tr kp10, some d, some (.int low), some (.int (low + hig)), some (bookD bk), x11, ?_⟩
      rw [List.map_append]
      rfl
  · subst eΓ
    rw [List.length_map, List.length_range] at pl hd5
    match ps, pl, po with
    | [pa, pb], _, po =>
      walk_at "st"
      refine ⟨a, _, 3, rfl, hd5, by omega, by decide, by decide, fun g M10 z0 z1 hd10 kp10 => ?_⟩
      walk_at "st"
      exact fin.same (q ⟨top, 1 + g, y0, y1, y2, y3, ws, pa, pb⟩ M10 ⟨⟨t2.1, by show top ≤ 4; omega⟩, by show 1 ≤ 1 + g ∧ 1 + g ≤ 3; omega, q0, q1, q2, q3, wo, po pa (by simp), po pb (by simp)⟩ (kp5.tr kp10))
end
end L3

/-! The law's own: warmths, ticks. -/
namespace L3
open PySem PySem.Spec PyProof.Rows L2
local macro_rules | `(tactic| walk_at "mem") => `(tactic| first | assumption | exact mset_same | (refine (mset_ne ?_).trans ?_ <;> first | assumption | exact Ne.symm (by assumption) | exact mset_same | (refine (mset_ne ?_).trans ?_ <;> first | assumption | exact Ne.symm (by assumption) | exact mset_same)))
local macro_rules | `(tactic| walk_at "line") => `(tactic| first | decide | (simp only [List.length_cons, List.length_nil, List.length_map, List.length_append]; first | decide | omega) | (refine sl_b ?_; simp only [List.length_cons, List.length_nil, List.length_map, List.length_append]; first | decide | omega))
local macro_rules | `(tactic| walk_at "s1") => `(tactic| first
  | ((with_reducible refine' k_var ?g0 ?_); (case g0 => exact rfl))
  | ((with_reducible refine' k_seqN ?g0 ?_); (case g0 => (try simp only [startD, g_cons, g_nil, List.map_cons, List.map_nil, List.length_cons, List.length_nil, Nat.reduceAdd, Nat.reduceSub, List.replicate_succ, List.replicate_zero, List.cons_append, List.nil_append, List.set_cons_zero, List.set_cons_succ, List.zip_cons_cons, List.zip_nil_right, List.zip_nil_left]); try exact rfl))
  | ((with_reducible refine' k_retN ?g0 ?_); (case g0 => (try simp only [startD, g_cons, g_nil, List.map_cons, List.map_nil, List.length_cons, List.length_nil, Nat.reduceAdd, Nat.reduceSub, List.replicate_succ, List.replicate_zero, List.cons_append, List.nil_append, List.set_cons_zero, List.set_cons_succ, List.zip_cons_cons, List.zip_nil_right, List.zip_nil_left]); try exact rfl))
  | (with_reducible refine k_nedev ?_)
  | (with_reducible refine k_ifS ?_)
  | (with_reducible refine k_next ?_)
  | (with_reducible refine k_drop ?_)
  | (with_reducible refine k_set ?_)
  | (with_reducible refine k_asg ?_)
  | (with_reducible refine k_sub ?_)
  | (with_reducible refine k_par ?_)
  | (with_reducible refine k_asP ?_)
  | (with_reducible refine k_par3 ?_)
  | (with_reducible refine k_asP3 ?_)
  | (with_reducible refine k_aug ?_)
  | (with_reducible refine k_for ?_)
  | (with_reducible refine k_B ?_)
  | (with_reducible refine k_asB ?_)
  | (with_reducible refine k_and ?_)
  | (with_reducible refine k_or ?_)
  | (with_reducible refine k_not ?_)
  | (with_reducible refine k_andV ?_)
  | (with_reducible refine k_orV ?_)
  | (with_reducible refine k_notV ?_)
  | (with_reducible refine k_chain ?_)
  | (with_reducible refine k_yes ?_)
  | (with_reducible refine k_if ?_)
  | (with_reducible refine k_c ?_)
  | (with_reducible refine k_op ?_)
  | (with_reducible refine k_nil ?_)
  | (with_reducible refine k_cons ?_)
  | (with_reducible refine k_tup ?_)
  | (with_reducible refine k_lst ?_)
  | (with_reducible refine k_call ?_)
  | (with_reducible refine k_fn ?_)
  | (with_reducible refine k_sl ?_)
  | (with_reducible refine k_app ?_)
  | (with_reducible refine k_pop ?_)
  | (with_reducible refine k_it ?_)
  | (with_reducible refine k_ik ?_)
  | (with_reducible refine k_il ?_)
  | (with_reducible refine k_ir ?_)
  | (with_reducible refine k_lc ?_)
  | (with_reducible refine k_addi ?_)
  | (with_reducible refine k_iaddi ?_)
  | (with_reducible refine k_eqi ?_)
  | (with_reducible refine k_nei ?_)
  | (with_reducible refine k_eqs ?_)
  | (with_reducible refine k_nes ?_)
  | (with_reducible refine k_eqb ?_)
  | (with_reducible refine k_neb ?_)
  | (with_reducible refine k_eqst ?_)
  | (with_reducible refine k_isN ?_)
  | (with_reducible refine k_notN ?_)
  | (with_reducible refine k_rsls ?_)
  | (with_reducible refine k_rsl ?_)
  | (with_reducible refine k_lent ?_)
  | (with_reducible refine k_i2 ?_)
  | (with_reducible refine k_toi ?_)
  | (with_reducible refine k_tob ?_)
  | (with_reducible refine k_itw ?_)
  | (with_reducible refine k_itt ?_)
  | (with_reducible refine k_lc2 ?_)
  | (with_reducible refine k_get ?_)
  | (with_reducible refine k_dc ?_)
  | ((with_reducible refine' k_ask ?g0 ?_); (case g0 => exact rfl))
  | ((with_reducible refine' k_ix ?g0 ?_); (case g0 => exact rfl))
  | ((with_reducible refine' k_lix ?g0 ?g1 ?_); (case g0 => walk_at "mem"); (case g1 => exact rfl))
  | ((with_reducible refine' k_int ?g0 ?_); (case g0 => first | exact trivial | exact cm2 | (show (0 : Int) < _; omega) | (show CMul _ _; exact .inl ⟨by omega, by omega⟩) | (show CMul _ _; exact .inr ⟨by omega, by omega⟩) | (show CDiv _ _; exact ⟨by omega, by omega⟩) | exact ⟨by decide, by decide⟩))
  | ((with_reducible refine' k_addt ?g0 ?_); (case g0 => walk_at "line"))
  | ((with_reducible refine' sl_s ?g0 ?_); (case g0 => walk_at "line"))
  | ((with_reducible refine' k_inT ?g0 ?g1 ?_); (case g0 => exact rfl); (case g1 => exact rfl))
  | ((with_reducible refine' k_ninT ?g0 ?g1 ?_); (case g0 => exact rfl); (case g1 => exact rfl))
  | ((with_reducible refine' k_inL ?g0 ?g1 ?g2 ?_); (case g0 => walk_at "mem"); (case g1 => exact rfl); (case g2 => exact rfl))
  | ((with_reducible refine' k_ninL ?g0 ?g1 ?g2 ?_); (case g0 => walk_at "mem"); (case g1 => exact rfl); (case g2 => exact rfl))
  | ((with_reducible refine' k_lenl ?g0 ?_); (case g0 => walk_at "mem"))
  | ((with_reducible refine' k_ninD ?g0 ?_); (case g0 => walk_at "mem"))
  | ((with_reducible refine' k_inD ?g0 ?_); (case g0 => walk_at "mem"))
  | ((with_reducible refine' k_rik ?g0 ?_); (case g0 => walk_at "mem"))
  | ((with_reducible refine' k_ril ?g0 ?_); (case g0 => walk_at "mem"))
  | ((with_reducible refine' k_isi ?g0 ?g1 ?_); (case g0 => exact rfl); (case g1 => exact rfl))
  | ((with_reducible refine' k_isl ?g0 ?_); (case g0 => walk_at "mem"))
  | ((with_reducible refine' k_rget ?g0 ?_); (case g0 => walk_at "mem"))
  | ((with_reducible refine' k_dix ?g0 ?g1 ?_); (case g0 => walk_at "mem"); (case g1 => assumption))
  | ((with_reducible refine' k_iaddl ?g0 ?g1 ?g2 ?_); (case g0 => walk_at "mem"); (case g1 => walk_at "mem"); (case g2 => walk_at "line"))
  | ((with_reducible refine' k_addl ?g0 ?g1 ?g2 ?_); (case g0 => walk_at "mem"); (case g1 => walk_at "mem"); (case g2 => walk_at "line"))
  | ((with_reducible refine' k_rall ?g0 ?g1 ?_); (case g0 => walk_at "mem"); (case g1 => exact rfl))
  | ((with_reducible refine' k_tot ?g0 ?_); (case g0 => walk_at "mem"))
  | ((with_reducible refine' k_t ?g0 ?_); (case g0 => exact rfl))
  | ((with_reducible refine' k_f ?g0 ?_); (case g0 => exact rfl)))
local macro_rules | `(tactic| walk_at "st") => `(tactic| (repeat (walk_at "s1")); try dsimp only)
local macro_rules | `(tactic| walk_at "c") => `(tactic| try simp only [inV_two, d_no, d_on, d_off, d_open, d_shut, d_no', d_on', d_off', d_open', d_shut', w_cold, w_cold', v_heat, reduceCtorEq, decide_true, decide_false, Bool.or_false, Bool.false_or, Bool.or_true, Bool.true_or, Bool.not_true, Bool.not_false, Bool.false_eq_true, Bool.true_eq_false, if_true, if_false, reduceIte])
local macro_rules | `(tactic| walk_at "len") => `(tactic| (intro ds M Q EX h; repeat (obtain ⟨x, h⟩ := h; try (subst x; exact rfl))))
def frO (t b : Nat) : Nat := if b = 1 then 2 * t else t
theorem frW_even (t : Nat) : frW (2 * t) = .tup [.int (.ofNat t), .int 1] := by
  unfold frW
  rw [if_pos (by omega), show 2 * t / 2 = t by omega]
theorem rd_nil : runD [] = .tup [] := rfl
def feelW : Nat → Str
  | 0 => "cold"
  | 1 => "hot"
  | _ => "well"
theorem firstC_snoc (dv : Bool × Bool) (l : List Deed) (x : Deed) (hn : ∀ d ∈ l, d ≠ .no) : firstC dv (l ++ [x]) = if firstC dv l = .no then (if chg dv x ≠ dv then x else .no) else firstC dv l := by
  unfold firstC
  rw [List.filter_append, List.head?_append]
  cases h : (l.filter fun d => decide (chg dv d ≠ dv)).head? with
  | some y =>
    have hy : y ∈ l := (List.mem_filter.mp (List.mem_of_mem_head? h)).1
    simp [hn y hy]
  | none =>
    by_cases c : chg dv x ≠ dv
    · simp [c]
    · simp at c
      simp [c]
section
variable {P : Program} {w : World} {K : PySem.W.Frag} {mg : Str → Option Value} {base : Heap}
abbrev s_law_frac : Stmt := topS 71
theorem sc_law_frac : FnScope ["_law_top", "_law_below", "_law_one_here", "_law_other"] ["_law_top", "_law_below"] (defScope s_law_frac) := ⟨rfl, rfl, rfl, by decide +kernel, rfl, by decide +kernel, by decide +kernel⟩
def sp_law_frac : DSp := fun ds M Q _ => ∃ t b : Nat, ds = [.int (.ofNat t), .int (.ofNat b)] ∧ (b = 1 ∨ b = 2) ∧ Q (frW (frO t b)) M
theorem ok_law_frac {f : Addr} {fd : FuncData} (F : Fun K "_law_frac" "_law_frac" s_law_frac f fd) : DFn P w K mg base CX0 1 f fd ["_law_top", "_law_below"] sp_law_frac := by
  refine dfn_ok F sc_law_frac (by walk_at "len") fun cdv A outer s H E hr => ?_
  have hu := hr.units
  refine ⟨_, (dss_cons (ds_par (i := 2) (j := 3) (ps_par (by rfl) sc_law_frac.nd rfl rfl (by decide) rfl rfl (da_cons (dv 0) (da_cons (dv 1) da_nil)) (by rfl)))
        (dss_cons (ds_while PassesOwn.never (dt_cmp op_gtD (dv 3) de_int (nomark _)) (dss_one (ds_par (i := 2) (j := 3) (ps_par (by rfl) sc_law_frac.nd rfl rfl (by decide) rfl rfl (da_cons (dv 3) (da_cons (de_op op_modD (dv 2) (dv 3)) da_nil)) (by rfl)))))
        (dss_one (ds_ret (de_tup (da_cons (de_op op_fdivD (dv 0) (dv 2)) (da_cons (de_op op_fdivD (dv 1) (dv 2)) da_nil))))))), ?_⟩
  rintro ds M Q EX ⟨t, b, rfl, hb, q⟩
  have q := fin.same q
  walk_at "st"
  refine ⟨fun m Γ M' => ∃ x y : Nat, Γ = [some (.int (.ofNat t)), some (.int (.ofNat b)), some (.int (.ofNat x)), some (.int (.ofNat y))] ∧ M' = M ∧ y = m ∧ Nat.gcd x y = Nat.gcd t b, ⟨b, t, b, rfl, rfl, rfl, rfl⟩, ?_⟩
  rintro m Γ M' ⟨x, y, rfl, rfl, rfl, hg⟩
  walk_at "st"
  by_cases h : 0 < y
  · refine k_t (decide_eq_true (show (0 : Int) < (y : Int) by omega)) ?_
    refine k_par ?_
    walk_at "st"
    refine ⟨show (0 : Int) < (y : Int) by omega, ?_⟩
    walk_at "st"
    refine ⟨x % y, Nat.mod_lt _ h, y, x % y, rfl, rfl, rfl, ?_⟩
    rw [← hg, Nat.gcd_comm y, ← Nat.gcd_rec, Nat.gcd_comm]
  · have : y = 0 := by omega
    subst this
    refine k_f rfl ?_
    walk_at "st"
    rw [Nat.gcd_zero_right] at hg
    rw [hg]
    unfold frO at q
    rcases hb with rfl | rfl
    · rw [if_pos rfl, frW_even] at q
      rw [Nat.gcd_one_right]
      walk_at "st"
      have e1 : (Int.ofNat t) / (Int.ofNat 1) = Int.ofNat t := Int.ediv_one _
      rw [e1]
      exact q
    · rw [if_neg (by decide)] at q
      rw [gcd2]
      unfold frW at q
      by_cases h : t % 2 = 0
      · rw [if_pos h] at q ⊢
        walk_at "st"
        exact q
      · rw [if_neg h] at q ⊢
        walk_at "st"
        have e1 : (Int.ofNat t) / (Int.ofNat 1) = Int.ofNat t := Int.ediv_one _
        rw [e1]
        exact q

abbrev s_law_level : Stmt := topS 72
theorem sc_law_level : FnScope ["_law_warm_here"] ["_law_warm_here"] (defScope s_law_level) := ⟨rfl, rfl, rfl, by decide +kernel, rfl, by decide +kernel, by decide +kernel⟩
def sp_law_level : DSp := fun ds M Q _ => ∃ n : Nat, ds = [frW n] ∧ Q (.int (.ofNat n)) M
theorem ok_law_level {f : Addr} {fd : FuncData} (F : Fun K "_law_level" "_law_level" s_law_level f fd) : DFn P w K mg base CX0 1 f fd ["_law_warm_here"] sp_law_level := by
  refine dfn_ok F sc_law_level (by walk_at "len") fun cdv A outer s H E hr => ?_
  have hu := hr.units
  refine ⟨_, (dss_one (ds_ret (de_op op_addD (de_op op_mulD de_int (de_op op_fdivD (de_ix hu (dv 0) de_int (fun _ _ => rfl)) (de_ix hu (dv 0) de_int (fun _ _ => rfl)))) (de_if (dt_cmp (op_eqDD hu) (de_ix hu (dv 0) de_int (fun _ _ => rfl)) de_int (nomark _)) de_int de_int)))), ?_⟩
  rintro ds M Q EX ⟨n, rfl, q⟩
  have q := fin.same q
  unfold frW
  by_cases h : n % 2 = 0
  · rw [if_pos h]
    walk_at "st"
    have e : (2 * (Int.ofNat (n / 2) / 1) + 0) = Int.ofNat n := by
      rw [Int.ediv_one]
      show 2 * ((n / 2 : Nat) : Int) + 0 = (n : Int)
      omega
    rw [e]
    exact q
  · rw [if_neg h]
    walk_at "st"
    have e : (2 * (Int.ofNat n / 2) + 1) = Int.ofNat n := by
      show 2 * ((n : Int) / 2) + 1 = (n : Int)
      omega
    rw [e]
    exact q

abbrev s_law_begin : Stmt := topS 73
theorem sc_law_begin : FnScope ["_law_start"] ["_law_start"] (defScope s_law_begin) := ⟨rfl, rfl, rfl, by decide +kernel, rfl, by decide +kernel, by decide +kernel⟩
def sp_law_begin : DSp := fun ds M Q _ => ∃ s : St0, ds = [startDt s] ∧ Q (standD (begin0 s)) M
theorem ok_law_begin {f : Addr} {fd : FuncData} (c_law_level : Cal P w K mg base CX0 "_law_level" 1 ["_law_warm_here"] sp_law_level) (F : Fun K "_law_begin" "_law_begin" s_law_begin f fd) : DFn P w K mg base CX0 2 f fd ["_law_start"] sp_law_begin := by
  refine dfn_ok F sc_law_begin (by walk_at "len") fun cdv A outer s H E hr => ?_
  have hu := hr.units
  refine ⟨_, (dss_one (ds_ret (de_tup (da_cons (de_cal c_law_level (hr.mono (by decide)) (by rfl) pass0 (da_cons (de_ix hu (dv 0) de_int (fun _ _ => rfl)) da_nil)) (da_cons (de_ix hu (dv 0) de_int (fun _ _ => rfl)) (da_cons (de_ix hu (dv 0) de_int (fun _ _ => rfl)) (da_cons de_int (da_cons (de_tup (da_cons de_int (da_cons de_int da_nil))) da_nil)))))))), ?_⟩
  rintro ds M Q EX ⟨s, rfl, q⟩
  have q := fin.same q
  unfold startDt
  walk_at "st"
  refine ⟨s.n, rfl, ?_⟩
  walk_at "st"
  exact q

abbrev s_law_starts : Stmt := topS 74
theorem sc_law_starts : FnScope ["_law_house_here", "_law_found", "_law_level_here", "_law_warm_here"] ["_law_house_here"] (defScope s_law_starts) := ⟨rfl, rfl, rfl, by decide +kernel, rfl, by decide +kernel, by decide +kernel⟩
def sp_law_starts : DSp := fun ds M Q _ => ∃ h, ds = [houseD h] ∧ h.Ok ∧ ∀ a M', M a = none → Le M M' → M' a = some (.lst ((starts h).map startDt)) → Q (.obj a) M'
theorem ok_law_starts {f : Addr} {fd : FuncData} (c_law_frac : Cal P w K mg base CX0 "_law_frac" 1 ["_law_top", "_law_below"] sp_law_frac) (m_range : mg "range" = none) (F : Fun K "_law_starts" "_law_starts" s_law_starts f fd) : DFn P w K mg base CX0 2 f fd ["_law_house_here"] sp_law_starts := by
  refine dfn_ok F sc_law_starts (by walk_at "len") fun cdv A outer s H E hr => ?_
  have hu := hr.units
  refine ⟨_, (dss_cons (ds_set (i := 1) sc_law_starts.nd rfl (.inl rfl) (de_lst da_nil))
        (dss_cons (ds_for PassesOwn.never rfl (di_range (by rfl) m_range (da_cons (de_op op_addD (de_op op_mulD de_int (de_ix hu (de_ix hu (dv 0) de_int (fun _ _ => rfl)) de_int (fun _ _ => rfl))) de_int) da_nil)) (dg_name (pg_name (i := 2) sc_law_starts.nd rfl (Or.inl rfl))) (dss_cons (ds_set (i := 3) sc_law_starts.nd rfl (.inl rfl) (de_cal c_law_frac (hr.mono (by decide)) (by rfl) pass0 (da_cons (dv 2) (da_cons de_int da_nil))))
        (dss_one (ds_set (i := 1) sc_law_starts.nd rfl (.inl rfl) (de_op op_addD (dv 1) (de_lst (da_cons (de_tup (da_cons (dv 3) (da_cons de_bl (da_cons de_bl da_nil)))) (da_cons (de_tup (da_cons (dv 3) (da_cons de_bl (da_cons de_bl da_nil)))) (da_cons (de_tup (da_cons (dv 3) (da_cons de_bl (da_cons de_bl da_nil)))) (da_cons (de_tup (da_cons (dv 3) (da_cons de_bl (da_cons de_bl da_nil)))) da_nil))))))))))
        (dss_one (ds_ret (dv 1))))), ?_⟩
  rintro ds M Q EX ⟨h, rfl, o, q⟩
  have ht := o.top
  walk_at "st"
  intro a ha
  walk_at "st"
  refine k_asR (by omega) (by omega) ?_
  have hN : ((2 * h.top + 1).toNat) ≤ 9 := by omega
  unfold starts at q
  generalize (2 * h.top + 1).toNat = N at *
  refine ⟨(List.range N).map fun (i : Nat) => D.int i, fun i Γ' M' => i ≤ N ∧ ∃ l x2 x3, Γ' = [some (houseD h), some (.obj l), x2, x3] ∧ M l = none ∧ Le M M' ∧ M' l = some (.lst ((starts0 i).map startDt)), fun _ _ _ _ => rfl,
    ⟨Nat.zero_le _, a, _, _, rfl, ha, Le.rfl'.at ha, mset_same⟩, fun i d Γ' M' hi ⟨_, l, x2, x3, hx, hl, le, hm⟩ => ?_, fun Γ' M' ⟨_, l, x2, x3, hx, hl, le, hm⟩ => ?_⟩
  · subst hx
    rw [List.getElem?_map] at hi
    obtain ⟨i', hi', rfl⟩ := Option.map_eq_some_iff.mp hi
    obtain ⟨hlt, hii⟩ := List.getElem?_eq_some_iff.mp hi'
    rw [List.length_range] at hlt
    rw [List.getElem_range] at hii
    subst hii
    refine k_ask rfl ?_
    walk_at "st"
    refine ⟨i, 2, rfl, .inr rfl, ?_⟩
    rw [show frO i 2 = i from rfl]
    walk_at "st"
    intro b hb
    have hbl : b ≠ l := Ne.symm (mne hm hb)
    refine k_addl ((mset_ne (Ne.symm hbl)).trans hm) mset_same (sl_b ?_) fun c hc => ?_
    · rw [List.length_map, starts0_len]
      simp only [List.length_nil, List.length_cons]
      omega
    refine ⟨by omega, c, _, _, rfl, le.free (mnone hc), (le.at (le.free hb)).at (le.free (mnone hc)), ?_⟩
    rw [mset_same, starts0, List.map_append]
    rfl
  · subst hx
    rw [List.length_map, List.length_range] at hm
    walk_at "st"
    exact fin.same (q l M' hl le hm)

abbrev s_law_feel : Stmt := topS 75
theorem sc_law_feel : FnScope ["_law_person", "_law_level_here"] ["_law_person", "_law_level_here"] (defScope s_law_feel) := ⟨rfl, rfl, rfl, by decide +kernel, rfl, by decide +kernel, by decide +kernel⟩
def sp_law_feel : DSp := fun ds M Q _ => ∃ p lv, ds = [persD p, .int lv] ∧ Q (.str (feelW (feel p lv))) M
theorem ok_law_feel {f : Addr} {fd : FuncData} (F : Fun K "_law_feel" "_law_feel" s_law_feel f fd) : DFn P w K mg base CX0 1 f fd ["_law_person", "_law_level_here"] sp_law_feel := by
  refine dfn_ok F sc_law_feel (by walk_at "len") fun cdv A outer s H E hr => ?_
  have hu := hr.units
  refine ⟨_, (dss_cons (ds_if (dt_cmp op_ltD (dv 1) (de_op op_mulD de_int (de_ix hu (dv 0) de_int (fun _ _ => rfl))) (nomark _)) (dss_one (ds_ret de_str)) dss_nil)
        (dss_one (ds_ret (de_if (dt_cmp op_gtD (dv 1) (de_op op_mulD de_int (de_ix hu (dv 0) de_int (fun _ _ => rfl))) (nomark _)) de_str de_str)))), ?_⟩
  rintro ds M Q EX ⟨p, lv, rfl, q⟩
  have q := fin.same q
  walk_at "st"
  unfold feel at q
  by_cases h1 : lv < 2 * p.low
  · rw [if_pos h1] at q
    refine k_t (decide_eq_true h1) ?_
    walk_at "st"
    exact q
  · rw [if_neg h1] at q
    refine k_f (decide_eq_false h1) ?_
    walk_at "st"
    by_cases h2 : 2 * p.high < lv
    · rw [if_pos h2] at q
      refine k_t (decide_eq_true h2) ?_
      exact q
    · rw [if_neg h2] at q
      refine k_f (decide_eq_false h2) ?_
      exact q

abbrev s_law_set : Stmt := topS 76
theorem sc_law_set : FnScope ["_law_devices", "_law_deed"] ["_law_devices", "_law_deed"] (defScope s_law_set) := ⟨rfl, rfl, rfl, by decide +kernel, rfl, by decide +kernel, by decide +kernel⟩
def sp_law_set : DSp := fun ds M Q _ => ∃ dv d, ds = [devD dv, .str (Deed.s d)] ∧ Q (devD (chg dv d)) M
theorem ok_law_set {f : Addr} {fd : FuncData} (F : Fun K "_law_set" "_law_set" s_law_set f fd) : DFn P w K mg base CX0 1 f fd ["_law_devices", "_law_deed"] sp_law_set := by
  refine dfn_ok F sc_law_set (by walk_at "len") fun cdv A outer s H E hr => ?_
  have hu := hr.units
  refine ⟨_, (dss_cons (ds_if (dt_cmp (op_inDD hu) (dv 1) (de_lst (da_cons de_str (da_cons de_str da_nil))) (by rfl)) (dss_one (ds_ret (de_tup (da_cons (de_cmp (op_eqDD hu) (dv 1) de_str (nomark _)) (da_cons (de_ix hu (dv 0) de_int (fun _ _ => rfl)) da_nil))))) dss_nil)
        (dss_one (ds_ret (de_if (dt_cmp (op_inDD hu) (dv 1) (de_lst (da_cons de_str (da_cons de_str da_nil))) (by rfl)) (de_tup (da_cons (de_ix hu (dv 0) de_int (fun _ _ => rfl)) (da_cons (de_cmp (op_eqDD hu) (dv 1) de_str (nomark _)) da_nil))) (dv 0))))), ?_⟩
  rintro ds M Q EX ⟨dv, d, rfl, q⟩
  walk_at "st"
  intro a ha
  have qa := (fin.same q).new (o := .lst [.str "on", .str "off"]) ha
  walk_at "st"
  cases d
  · walk_at "c"
    walk_at "st"
    intro b hb
    walk_at "st"
    walk_at "c"
    exact qa.new hb
  · walk_at "c"
    walk_at "st"
    walk_at "c"
    exact qa
  · walk_at "c"
    walk_at "st"
    walk_at "c"
    exact qa
  · walk_at "c"
    walk_at "st"
    intro b hb
    walk_at "st"
    walk_at "c"
    walk_at "st"
    walk_at "c"
    exact qa.new hb
  · walk_at "c"
    walk_at "st"
    intro b hb
    walk_at "st"
    walk_at "c"
    walk_at "st"
    walk_at "c"
    exact qa.new hb

abbrev s_law_looks : Stmt := topS 77
theorem sc_law_looks : FnScope ["_law_house_here", "_law_stand", "_law_who"] ["_law_house_here", "_law_stand", "_law_who"] (defScope s_law_looks) := ⟨rfl, rfl, rfl, by decide +kernel, rfl, by decide +kernel, by decide +kernel⟩
def sp_law_looks : DSp := fun ds M Q _ => ∃ h s who, ds = [houseD h, standD s, .int (whoI who)] ∧ h.Ok ∧ Q (.bl (looksB h s who)) M
theorem ok_law_looks {f : Addr} {fd : FuncData} (m_int : mg "int" = none) (F : Fun K "_law_looks" "_law_looks" s_law_looks f fd) : DFn P w K mg base CX0 1 f fd ["_law_house_here", "_law_stand", "_law_who"] sp_law_looks := by
  refine dfn_ok F sc_law_looks (by walk_at "len") fun cdv A outer s H E hr => ?_
  have hu := hr.units
  refine ⟨_, (dss_one (ds_ret (de_cmp (op_eqDD hu) (de_op op_modD (de_callTy call_intD (by rfl) m_int (by decide +kernel) (da_cons (de_ix hu (dv 1) de_int (fun _ _ => rfl)) da_nil)) (de_ix hu (de_ix hu (de_ix hu (dv 0) de_int (fun _ _ => rfl)) (dv 2) (fun _ _ => rfl)) de_int (fun _ _ => rfl))) de_int (nomark _)))), ?_⟩
  rintro ds M Q EX ⟨h, s, who, rfl, o, q⟩
  have q := fin.same q
  have hb := (o.per who).beat
  unfold looksB at q
  cases who
  · simp only [House.per] at hb
    walk_at "st"
    exact q
  · simp only [House.per] at hb
    walk_at "st"
    exact q
end
end L3

/-! The law's own: looks, ticks, runs. -/
namespace L3
open PySem PySem.Spec PyProof.Rows L2
local macro_rules | `(tactic| walk_at "mem") => `(tactic| first | assumption | exact mset_same | (refine (mset_ne ?_).trans ?_ <;> first | assumption | exact Ne.symm (by assumption) | exact mset_same | (refine (mset_ne ?_).trans ?_ <;> first | assumption | exact Ne.symm (by assumption) | exact mset_same)))
local macro_rules | `(tactic| walk_at "line") => `(tactic| first | decide | (simp only [List.length_cons, List.length_nil, List.length_map, List.length_append]; first | decide | omega) | (refine sl_b ?_; simp only [List.length_cons, List.length_nil, List.length_map, List.length_append]; first | decide | omega))
local macro_rules | `(tactic| walk_at "s1") => `(tactic| first
  | ((with_reducible refine' k_var ?g0 ?_); (case g0 => exact rfl))
  | ((with_reducible refine' k_seqN ?g0 ?_); (case g0 => (try simp only [startD, g_cons, g_nil, List.map_cons, List.map_nil, List.length_cons, List.length_nil, Nat.reduceAdd, Nat.reduceSub, List.replicate_succ, List.replicate_zero, List.cons_append, List.nil_append, List.set_cons_zero, List.set_cons_succ, List.zip_cons_cons, List.zip_nil_right, List.zip_nil_left]); try exact rfl))
  | ((with_reducible refine' k_retN ?g0 ?_); (case g0 => (try simp only [startD, g_cons, g_nil, List.map_cons, List.map_nil, List.length_cons, List.length_nil, Nat.reduceAdd, Nat.reduceSub, List.replicate_succ, List.replicate_zero, List.cons_append, List.nil_append, List.set_cons_zero, List.set_cons_succ, List.zip_cons_cons, List.zip_nil_right, List.zip_nil_left]); try exact rfl))
  | (with_reducible refine k_nedev ?_)
  | (with_reducible refine k_ifS ?_)
  | (with_reducible refine k_next ?_)
  | (with_reducible refine k_drop ?_)
  | (with_reducible refine k_set ?_)
  | (with_reducible refine k_asg ?_)
  | (with_reducible refine k_sub ?_)
  | (with_reducible refine k_par ?_)
  | (with_reducible refine k_asP ?_)
  | (with_reducible refine k_par3 ?_)
  | (with_reducible refine k_asP3 ?_)
  | (with_reducible refine k_aug ?_)
  | (with_reducible refine k_for ?_)
  | (with_reducible refine k_B ?_)
  | (with_reducible refine k_asB ?_)
  | (with_reducible refine k_and ?_)
  | (with_reducible refine k_or ?_)
  | (with_reducible refine k_not ?_)
  | (with_reducible refine k_andV ?_)
  | (with_reducible refine k_orV ?_)
  | (with_reducible refine k_notV ?_)
  | (with_reducible refine k_chain ?_)
  | (with_reducible refine k_yes ?_)
  | (with_reducible refine k_if ?_)
  | (with_reducible refine k_c ?_)
  | (with_reducible refine k_op ?_)
  | (with_reducible refine k_nil ?_)
  | (with_reducible refine k_cons ?_)
  | (with_reducible refine k_tup ?_)
  | (with_reducible refine k_lst ?_)
  | (with_reducible refine k_call ?_)
  | (with_reducible refine k_fn ?_)
  | (with_reducible refine k_sl ?_)
  | (with_reducible refine k_app ?_)
  | (with_reducible refine k_pop ?_)
  | (with_reducible refine k_it ?_)
  | (with_reducible refine k_ik ?_)
  | (with_reducible refine k_il ?_)
  | (with_reducible refine k_ir ?_)
  | (with_reducible refine k_lc ?_)
  | (with_reducible refine k_addi ?_)
  | (with_reducible refine k_iaddi ?_)
  | (with_reducible refine k_eqi ?_)
  | (with_reducible refine k_nei ?_)
  | (with_reducible refine k_eqs ?_)
  | (with_reducible refine k_nes ?_)
  | (with_reducible refine k_eqb ?_)
  | (with_reducible refine k_neb ?_)
  | (with_reducible refine k_eqst ?_)
  | (with_reducible refine k_isN ?_)
  | (with_reducible refine k_notN ?_)
  | (with_reducible refine k_rsls ?_)
  | (with_reducible refine k_rsl ?_)
  | (with_reducible refine k_lent ?_)
  | (with_reducible refine k_i2 ?_)
  | (with_reducible refine k_toi ?_)
  | (with_reducible refine k_tob ?_)
  | (with_reducible refine k_itw ?_)
  | (with_reducible refine k_itt ?_)
  | (with_reducible refine k_lc2 ?_)
  | (with_reducible refine k_get ?_)
  | (with_reducible refine k_dc ?_)
  | ((with_reducible refine' k_ask ?g0 ?_); (case g0 => exact rfl))
  | ((with_reducible refine' k_ix ?g0 ?_); (case g0 => exact rfl))
  | ((with_reducible refine' k_lix ?g0 ?g1 ?_); (case g0 => walk_at "mem"); (case g1 => exact rfl))
  | ((with_reducible refine' k_int ?g0 ?_); (case g0 => first | exact trivial | exact cm2 | (show (0 : Int) < _; omega) | (show CMul _ _; exact .inl ⟨by omega, by omega⟩) | (show CMul _ _; exact .inr ⟨by omega, by omega⟩) | (show CDiv _ _; exact ⟨by omega, by omega⟩) | exact ⟨by decide, by decide⟩))
  | ((with_reducible refine' k_addt ?g0 ?_); (case g0 => walk_at "line"))
  | ((with_reducible refine' sl_s ?g0 ?_); (case g0 => walk_at "line"))
  | ((with_reducible refine' k_inT ?g0 ?g1 ?_); (case g0 => exact rfl); (case g1 => exact rfl))
  | ((with_reducible refine' k_ninT ?g0 ?g1 ?_); (case g0 => exact rfl); (case g1 => exact rfl))
  | ((with_reducible refine' k_inL ?g0 ?g1 ?g2 ?_); (case g0 => walk_at "mem"); (case g1 => exact rfl); (case g2 => exact rfl))
  | ((with_reducible refine' k_ninL ?g0 ?g1 ?g2 ?_); (case g0 => walk_at "mem"); (case g1 => exact rfl); (case g2 => exact rfl))
  | ((with_reducible refine' k_lenl ?g0 ?_); (case g0 => walk_at "mem"))
  | ((with_reducible refine' k_ninD ?g0 ?_); (case g0 => walk_at "mem"))
  | ((with_reducible refine' k_inD ?g0 ?_); (case g0 => walk_at "mem"))
  | ((with_reducible refine' k_rik ?g0 ?_); (case g0 => walk_at "mem"))
  | ((with_reducible refine' k_ril ?g0 ?_); (case g0 => walk_at "mem"))
  | ((with_reducible refine' k_isi ?g0 ?g1 ?_); (case g0 => exact rfl); (case g1 => exact rfl))
  | ((with_reducible refine' k_isl ?g0 ?_); (case g0 => walk_at "mem"))
  | ((with_reducible refine' k_rget ?g0 ?_); (case g0 => walk_at "mem"))
  | ((with_reducible refine' k_dix ?g0 ?g1 ?_); (case g0 => walk_at "mem"); (case g1 => assumption))
  | ((with_reducible refine' k_iaddl ?g0 ?g1 ?g2 ?_); (case g0 => walk_at "mem"); (case g1 => walk_at "mem"); (case g2 => walk_at "line"))
  | ((with_reducible refine' k_addl ?g0 ?g1 ?g2 ?_); (case g0 => walk_at "mem"); (case g1 => walk_at "mem"); (case g2 => walk_at "line"))
  | ((with_reducible refine' k_rall ?g0 ?g1 ?_); (case g0 => walk_at "mem"); (case g1 => exact rfl))
  | ((with_reducible refine' k_tot ?g0 ?_); (case g0 => walk_at "mem"))
  | ((with_reducible refine' k_t ?g0 ?_); (case g0 => exact rfl))
  | ((with_reducible refine' k_f ?g0 ?_); (case g0 => exact rfl)))
local macro_rules | `(tactic| walk_at "st") => `(tactic| (repeat (walk_at "s1")); try dsimp only)
local macro_rules | `(tactic| walk_at "c") => `(tactic| try simp only [inV_two, d_no, d_on, d_off, d_open, d_shut, d_no', d_on', d_off', d_open', d_shut', w_cold, w_cold', v_heat, reduceCtorEq, decide_true, decide_false, Bool.or_false, Bool.false_or, Bool.or_true, Bool.true_or, Bool.not_true, Bool.not_false, Bool.false_eq_true, Bool.true_eq_false, if_true, if_false, reduceIte])
local macro_rules | `(tactic| walk_at "len") => `(tactic| (intro ds M Q EX h; repeat (obtain ⟨x, h⟩ := h; try (subst x; exact rfl))))
def rIndex (x y : D) (M2 : Mm) (Q : QD) : Prop := match x, y with
  | .obj a, .str z => match M2 a with
    | some (.lst ds) => ask (toSs ds) fun ss => ask (ss.findIdx? fun q => decide (q = z)) fun j => Q (.int j) M2
    | _ => False
  | _, _ => False
theorem k_index {ta tb : DTE} {Γ : Ge} {M : Mm} {Q : QD} (h : ta Γ M fun x M1 => isL M1 x ∧ tb Γ M1 fun y M2 => rIndex x y M2 Q) : dIndex ta tb Γ M Q := h
theorem k_rindex {a : Addr} {z : Str} {M : Mm} {Q : QD} {ds : List D} {ss : List Str} {j : Nat} (h : M a = some (.lst ds)) (h1 : toSs ds = some ss) (h2 : (ss.findIdx? fun q => decide (q = z)) = some j) (q : Q (.int j) M) : rIndex (.obj a) (.str z) M Q := by
  unfold rIndex
  simp only [h, h1, h2, ask_some]
  exact q
theorem feel_ix (n : Nat) (h : n < 3) : ([("cold" : Str), "hot", "well"].findIdx? fun q => decide (q = feelW n)) = some n := by
  match n, h with
  | 0, _ => rfl
  | 1, _ => rfl
  | 2, _ => rfl
section
variable {P : Program} {w : World} {K : PySem.W.Frag} {mg : Str → Option Value} {base : Heap}
abbrev s_law_look : Stmt := topS 78
theorem sc_law_look : FnScope ["_law_house_here", "_law_stand", "_law_who", "_law_person", "_law_page", "_law_some", "_law_to", "_law_deed", "_law_word", "_law_pair", "_law_devices"] ["_law_house_here", "_law_stand", "_law_who"] (defScope s_law_look) := ⟨rfl, rfl, rfl, by decide +kernel, rfl, by decide +kernel, by decide +kernel⟩
def sp_law_look : DSp := fun ds M Q _ => ∃ h s who, ds = [houseD h, standD s, .int (whoI who)] ∧ h.Ok ∧ s.Ok h ∧ Q (.tup [standD (lookS h s who), .str (lookD h s who).s]) M
theorem ok_law_look {f : Addr} {fd : FuncData} (c_law_set : Cal P w K mg base CX0 "_law_set" 1 ["_law_devices", "_law_deed"] sp_law_set) (c_law_looks : Cal P w K mg base CX0 "_law_looks" 1 ["_law_house_here", "_law_stand", "_law_who"] sp_law_looks) (c_law_feel : Cal P w K mg base CX0 "_law_feel" 1 ["_law_person", "_law_level_here"] sp_law_feel) (F : Fun K "_law_look" "_law_look" s_law_look f fd) : DFn P w K mg base CX0 2 f fd ["_law_house_here", "_law_stand", "_law_who"] sp_law_look := by
  refine dfn_ok F sc_law_look (by walk_at "len") fun cdv A outer s H E hr => ?_
  have hu := hr.units
  refine ⟨_, (dss_cons (ds_if (dt_not (dt_val (de_cal c_law_looks (hr.mono (by decide)) (by rfl) pass0 (da_cons (dv 0) (da_cons (dv 1) (da_cons (dv 2) da_nil)))))) (dss_one (ds_ret (de_tup (da_cons (dv 1) (da_cons de_str da_nil))))) dss_nil)
        (dss_cons (ds_par (i := 3) (j := 4) (ps_par (by rfl) sc_law_look.nd rfl rfl (by decide) rfl rfl (da_cons (de_ix hu (de_ix hu (dv 0) de_int (fun _ _ => rfl)) (dv 2) (fun _ _ => rfl)) (da_cons (de_ix hu (de_ix hu (dv 1) de_int (fun _ _ => rfl)) (dv 2) (fun _ _ => rfl)) da_nil)) (by rfl)))
        (dss_cons (ds_asg (de_ix hu (de_ix hu (de_ix hu (dv 3) de_int (fun _ _ => rfl)) (dv 4) (fun _ _ => rfl)) (de_index (de_lst (da_cons de_str (da_cons de_str (da_cons de_str da_nil)))) (de_cal c_law_feel (hr.mono (by decide)) (by rfl) pass0 (da_cons (dv 3) (da_cons (de_ix hu (dv 1) de_int (fun _ _ => rfl)) da_nil)))) (fun _ _ => rfl)) (dg_tup (is := [5, 6]) (pg_tup rfl (pgs_cons (pg_name (i := 5) sc_law_look.nd rfl (Or.inl rfl)) (pgs_cons (pg_name (i := 6) sc_law_look.nd rfl (Or.inl rfl)) pgs_nil))) rfl))
        (dss_cons (ds_set (i := 7) sc_law_look.nd rfl (.inl rfl) de_str)
        (dss_cons (ds_for PassesOwn.never rfl (di_tup (dv 5)) (dg_name (pg_name (i := 8) sc_law_look.nd rfl (Or.inl rfl))) (dss_one (ds_if (PW.pt (dw_and (dt_cmp (op_eqDD hu) (dv 7) de_str (nomark _)) (dw_and1 (dt_cmp (op_neDD hu) (de_cal c_law_set (hr.mono (by decide)) (by rfl) pass0 (da_cons (de_slice (dv 1) wp_int wp_int) (da_cons (dv 8) da_nil))) (de_slice (dv 1) wp_int wp_int) (nomark _))))) (dss_one (ds_set (i := 7) sc_law_look.nd rfl (.inl rfl) (dv 8))) dss_nil)))
        (dss_cons (ds_set (i := 9) sc_law_look.nd rfl (.inl rfl) (de_if (dt_cmp (op_eqDD hu) (dv 2) de_int (nomark _)) (de_tup (da_cons (dv 6) (da_cons (de_ix hu (de_ix hu (dv 1) de_int (fun _ _ => rfl)) de_int (fun _ _ => rfl)) da_nil))) (de_tup (da_cons (de_ix hu (de_ix hu (dv 1) de_int (fun _ _ => rfl)) de_int (fun _ _ => rfl)) (da_cons (dv 6) da_nil)))))
        (dss_cons (ds_set (i := 10) sc_law_look.nd rfl (.inl rfl) (de_cal c_law_set (hr.mono (by decide)) (by rfl) pass0 (da_cons (de_slice (dv 1) wp_int wp_int) (da_cons (dv 7) da_nil))))
        (dss_one (ds_ret (de_tup (da_cons (de_op op_addD (de_op op_addD (de_tup (da_cons (de_ix hu (dv 1) de_int (fun _ _ => rfl)) da_nil)) (dv 10)) (de_tup (da_cons (de_ix hu (dv 1) de_int (fun _ _ => rfl)) (da_cons (dv 9) da_nil)))) (da_cons (dv 7) da_nil)))))))))))), ?_⟩
  rintro ds M Q EX ⟨h, s, who, rfl, o, so, q⟩
  have q := fin.same q
  walk_at "st"
  refine ⟨h, s, who, rfl, o, ?_⟩
  unfold lookS lookD at q
  cases hb : looksB h s who with
  | false =>
    rw [hb] at q
    walk_at "st"
    exact q
  | true =>
    rw [hb, if_pos rfl, if_pos rfl] at q
    have pa := (o.per who).pageAt (so.pg who)
    have lo := lineOf_ok o so who
    have fl := feel_lt (h.per who) s.lv
    cases who
    · walk_at "st"
      refine k_ix (bk_ixo pa.1) ?_
      walk_at "st"
      refine k_index ?_
      walk_at "st"
      intro b hb2
      walk_at "st"
      refine ⟨h.per false, s.lv, rfl, ?_⟩
      refine k_rindex mset_same rfl (feel_ix _ fl) ?_
      refine k_ix (pg_ixo fl) (k_ask rfl ?_)
      walk_at "st"
      have q := q.new hb2 (o := .lst [.str "cold", .str "hot", .str "well"])
      generalize mset M b (.lst [.str "cold", .str "hot", .str "well"]) = M1 at q ⊢
      show forBody (srcC ((lineOf h s false).tries.map fun d => D.str d.s)) _ _ _ _ _
      have deq : deedOf h s false = firstC (s.ht, s.wd) (lineOf h s false).tries := rfl
      rw [deq] at q
      refine ⟨(lineOf h s false).tries.map (fun d : Deed => D.str d.s), fun i Γ' M' => M1 = M' ∧ ∃ x8 x9 x10, Γ' = [some (houseD h), some (standD s), some (.int (whoI false)), some (persD (h.per false)), some (.int (.ofNat (s.pg false))), some (.tup ((lineOf h s false).tries.map fun d => D.str d.s)), some (.int (.ofNat (lineOf h s false).to)), some (.str (firstC (s.ht, s.wd) ((lineOf h s false).tries.take i)).s), x8, x9, x10],
        fun _ _ _ _ => rfl, ⟨rfl, none, none, none, rfl⟩, fun i d Γ' M' hi ⟨eM, x8, x9, x10, eΓ⟩ => ?_, fun Γ' M' ⟨eM, x8, x9, x10, eΓ⟩ => ?_⟩
      · subst eM eΓ
        rw [List.getElem?_map] at hi
        obtain ⟨x, hx, rfl⟩ := Option.map_eq_some_iff.mp hi
        have sn := firstC_snoc (s.ht, s.wd) ((lineOf h s false).tries.take i) x fun d hd => lo.no d (List.mem_of_mem_take hd)
        have et : (lineOf h s false).tries.take (i + 1) = (lineOf h s false).tries.take i ++ [x] := by rw [List.take_add_one, hx]; rfl
        refine k_ask rfl ?_
        walk_at "st"
        walk_at "c"
        by_cases hy : firstC (s.ht, s.wd) ((lineOf h s false).tries.take i) = .no
        · refine k_t (decide_eq_true hy) ?_
          walk_at "st"
          refine ⟨(s.ht, s.wd), x, rfl, ?_⟩
          walk_at "st"
          refine k_nedev (q := (s.ht, s.wd)) ?_
          walk_at "st"
          by_cases c : chg (s.ht, s.wd) x ≠ (s.ht, s.wd)
          · refine k_t (decide_eq_true c) ?_
            walk_at "st"
            refine ⟨rfl, some (.str x.s), x9, x10, ?_⟩
            rw [et, sn, if_pos hy, if_pos c]
            rfl
          · refine k_f (decide_eq_false c) ?_
            walk_at "st"
            refine ⟨rfl, some (.str x.s), x9, x10, ?_⟩
            rw [et, sn, if_pos hy, if_neg c, hy]
            rfl
        · refine k_f (decide_eq_false hy) ?_
          walk_at "st"
          refine ⟨rfl, some (.str x.s), x9, x10, ?_⟩
          rw [et, sn, if_neg hy]
          rfl
      · subst eM eΓ
        rw [List.length_map, List.take_length]
        walk_at "st"
        refine ⟨(s.ht, s.wd), firstC (s.ht, s.wd) (lineOf h s false).tries, rfl, ?_⟩
        unfold devD
        walk_at "st"
        exact q
    · walk_at "st"
      refine k_ix (bk_ixo pa.1) ?_
      walk_at "st"
      refine k_index ?_
      walk_at "st"
      intro b hb2
      walk_at "st"
      refine ⟨h.per true, s.lv, rfl, ?_⟩
      refine k_rindex mset_same rfl (feel_ix _ fl) ?_
      refine k_ix (pg_ixo fl) (k_ask rfl ?_)
      walk_at "st"
      have q := q.new hb2 (o := .lst [.str "cold", .str "hot", .str "well"])
      generalize mset M b (.lst [.str "cold", .str "hot", .str "well"]) = M1 at q ⊢
      show forBody (srcC ((lineOf h s true).tries.map fun d => D.str d.s)) _ _ _ _ _
      have deq : deedOf h s true = firstC (s.ht, s.wd) (lineOf h s true).tries := rfl
      rw [deq] at q
      refine ⟨(lineOf h s true).tries.map (fun d : Deed => D.str d.s), fun i Γ' M' => M1 = M' ∧ ∃ x8 x9 x10, Γ' = [some (houseD h), some (standD s), some (.int (whoI true)), some (persD (h.per true)), some (.int (.ofNat (s.pg true))), some (.tup ((lineOf h s true).tries.map fun d => D.str d.s)), some (.int (.ofNat (lineOf h s true).to)), some (.str (firstC (s.ht, s.wd) ((lineOf h s true).tries.take i)).s), x8, x9, x10],
        fun _ _ _ _ => rfl, ⟨rfl, none, none, none, rfl⟩, fun i d Γ' M' hi ⟨eM, x8, x9, x10, eΓ⟩ => ?_, fun Γ' M' ⟨eM, x8, x9, x10, eΓ⟩ => ?_⟩
      · subst eM eΓ
        rw [List.getElem?_map] at hi
        obtain ⟨x, hx, rfl⟩ := Option.map_eq_some_iff.mp hi
        have sn := firstC_snoc (s.ht, s.wd) ((lineOf h s true).tries.take i) x fun d hd => lo.no d (List.mem_of_mem_take hd)
        have et : (lineOf h s true).tries.take (i + 1) = (lineOf h s true).tries.take i ++ [x] := by rw [List.take_add_one, hx]; rfl
        refine k_ask rfl ?_
        walk_at "st"
        walk_at "c"
        by_cases hy : firstC (s.ht, s.wd) ((lineOf h s true).tries.take i) = .no
        · refine k_t (decide_eq_true hy) ?_
          walk_at "st"
          refine ⟨(s.ht, s.wd), x, rfl, ?_⟩
          walk_at "st"
          refine k_nedev (q := (s.ht, s.wd)) ?_
          walk_at "st"
          by_cases c : chg (s.ht, s.wd) x ≠ (s.ht, s.wd)
          · refine k_t (decide_eq_true c) ?_
            walk_at "st"
            refine ⟨rfl, some (.str x.s), x9, x10, ?_⟩
            rw [et, sn, if_pos hy, if_pos c]
            rfl
          · refine k_f (decide_eq_false c) ?_
            walk_at "st"
            refine ⟨rfl, some (.str x.s), x9, x10, ?_⟩
            rw [et, sn, if_pos hy, if_neg c, hy]
            rfl
        · refine k_f (decide_eq_false hy) ?_
          walk_at "st"
          refine ⟨rfl, some (.str x.s), x9, x10, ?_⟩
          rw [et, sn, if_neg hy]
          rfl
      · subst eM eΓ
        rw [List.length_map, List.take_length]
        walk_at "st"
        refine ⟨(s.ht, s.wd), firstC (s.ht, s.wd) (lineOf h s true).tries, rfl, ?_⟩
        unfold devD
        walk_at "st"
        exact q

abbrev s_law_period : Stmt := topS 79
theorem sc_law_period : FnScope ["_law_house_here", "_law_person"] ["_law_house_here"] (defScope s_law_period) := ⟨rfl, rfl, rfl, by decide +kernel, rfl, by decide +kernel, by decide +kernel⟩
def sp_law_period : DSp := fun ds M Q _ => ∃ h, ds = [houseD h] ∧ h.Ok ∧ Q (.int (period h)) M
theorem ok_law_period {f : Addr} {fd : FuncData} (F : Fun K "_law_period" "_law_period" s_law_period f fd) : DFn P w K mg base CX0 1 f fd ["_law_house_here"] sp_law_period := by
  refine dfn_ok F sc_law_period (by walk_at "len") fun cdv A outer s H E hr => ?_
  have hu := hr.units
  refine ⟨_, (dss_one (ds_ret (de_if (dt_cmp (op_inDD hu) de_int (de_lc (own := [("_law_person", 1)]) rfl sc_law_period.nd (di_tup (de_ix hu (dv 0) de_int (fun _ _ => rfl))) (blkOk_by (own := [("_law_person", 1)]) (N := ["_law_house_here", "_law_person"]) (sc := defScope s_law_period) (by decide +kernel)) (fun _ _ _ _ _ => (dg_name (pg_name (i := 1) sc_law_period.nd rfl (Or.inl rfl)))) (fun _ _ _ _ _ => dts_nil) (fun _ _ _ _ _ => (de_ix hu (dv 1) de_int (fun _ _ => rfl)))) (by rfl)) de_int de_int))), ?_⟩
  rintro ds M Q EX ⟨h, rfl, o, q⟩
  have q := fin.same q
  have b1 := o.a.beat
  have b2 := o.b.beat
  walk_at "st"
  refine lc_mapS [h.a, h.b] persD (fun p => .int p.beat) srcC_ok (line3 (by simp)) (fun a acc p ha hp R hR => ?_) fun a ha => ?_
  · refine k_ask rfl ⟨by simp, ?_⟩
    unfold persD
    walk_at "st"
    exact hR
  · have q := q.new ha (o := .lst ([h.a, h.b].map fun p => .int p.beat))
    refine k_inL (v := .int 2) (ws := [.int h.a.beat, .int h.b.beat]) mset_same rfl rfl ?_
    walk_at "st"
    unfold period at q
    rcases b1 with e1 | e1 <;> rcases b2 with e2 | e2 <;> rw [e1, e2] at q ⊢
    · refine k_f (by decide) ?_
      walk_at "st"
      exact q
    · refine k_t (by decide) ?_
      walk_at "st"
      exact q
    · refine k_t (by decide) ?_
      walk_at "st"
      exact q
    · refine k_t (by decide) ?_
      walk_at "st"
      exact q

abbrev s_law_gain : Stmt := topS 80
theorem sc_law_gain : FnScope ["_law_house_here", "_law_stand", "_law_weather", "_law_losses", "_law_loss"] ["_law_house_here", "_law_stand", "_law_weather"] (defScope s_law_gain) := ⟨rfl, rfl, rfl, by decide +kernel, rfl, by decide +kernel, by decide +kernel⟩
def sp_law_gain : DSp := fun ds M Q _ => ∃ h s w, ds = [houseD h, standD s, .str (Wth.s w)] ∧ h.Ok ∧ Q (.int (gain h s w)) M
theorem ok_law_gain {f : Addr} {fd : FuncData} (F : Fun K "_law_gain" "_law_gain" s_law_gain f fd) : DFn P w K mg base CX0 1 f fd ["_law_house_here", "_law_stand", "_law_weather"] sp_law_gain := by
  refine dfn_ok F sc_law_gain (by walk_at "len") fun cdv A outer s H E hr => ?_
  have hu := hr.units
  refine ⟨_, (dss_cons (ds_set (i := 3) sc_law_gain.nd rfl (.inl rfl) (de_ix hu (de_ix hu (dv 0) de_int (fun _ _ => rfl)) de_int (fun _ _ => rfl)))
        (dss_cons (ds_set (i := 4) sc_law_gain.nd rfl (.inl rfl) (de_ix hu (dv 3) (de_op op_addD (de_if (dt_val (de_ix hu (dv 1) de_int (fun _ _ => rfl))) de_int de_int) (de_if (dt_cmp (op_eqDD hu) (dv 2) de_str (nomark _)) de_int de_int)) (fun _ _ => rfl)))
        (dss_one (ds_ret (de_op op_subD (de_if (dt_val (de_ix hu (dv 1) de_int (fun _ _ => rfl))) (de_ix hu (de_ix hu (dv 0) de_int (fun _ _ => rfl)) de_int (fun _ _ => rfl)) de_int) (dv 4)))))), ?_⟩
  rintro ds M Q EX ⟨h, s, w, rfl, o, q⟩
  have q := fin.same q
  unfold gain at q
  walk_at "st"
  cases h2 : s.ht
  · rw [h2, show bI false = 0 from rfl, Int.mul_zero] at q
    cases h1 : s.wd <;> rw [h1] at q <;> cases w <;> (walk_at "st"; walk_at "c"; walk_at "st"; rw [h2]; walk_at "st"; exact q)
  · rw [h2, show bI true = 1 from rfl, Int.mul_one] at q
    cases h1 : s.wd <;> rw [h1] at q <;> cases w <;> (walk_at "st"; walk_at "c"; walk_at "st"; rw [h2]; walk_at "st"; exact q)

abbrev s_law_warmed : Stmt := topS 81
theorem sc_law_warmed : FnScope ["_law_house_here", "_law_stand", "_law_weather", "_law_level_here", "_law_phase"] ["_law_house_here", "_law_stand", "_law_weather"] (defScope s_law_warmed) := ⟨rfl, rfl, rfl, by decide +kernel, rfl, by decide +kernel, by decide +kernel⟩
def sp_law_warmed : DSp := fun ds M Q _ => ∃ h s w, ds = [houseD h, standD s, .str (Wth.s w)] ∧ h.Ok ∧ Q (standD (passS h s w)) M
theorem ok_law_warmed {f : Addr} {fd : FuncData} (c_law_period : Cal P w K mg base CX0 "_law_period" 1 ["_law_house_here"] sp_law_period) (c_law_gain : Cal P w K mg base CX0 "_law_gain" 1 ["_law_house_here", "_law_stand", "_law_weather"] sp_law_gain) (m_min : mg "min" = none) (m_max : mg "max" = none) (m_int : mg "int" = none) (F : Fun K "_law_warmed" "_law_warmed" s_law_warmed f fd) : DFn P w K mg base CX0 2 f fd ["_law_house_here", "_law_stand", "_law_weather"] sp_law_warmed := by
  refine dfn_ok F sc_law_warmed (by walk_at "len") fun cdv A outer s H E hr => ?_
  have hu := hr.units
  refine ⟨_, (dss_cons (ds_set (i := 3) sc_law_warmed.nd rfl (.inl rfl) (de_op op_addD (de_ix hu (dv 1) de_int (fun _ _ => rfl)) (de_op op_mulD de_int (de_cal c_law_gain (hr.mono (by decide)) (by rfl) pass0 (da_cons (dv 0) (da_cons (dv 1) (da_cons (dv 2) da_nil)))))))
        (dss_cons (ds_set (i := 3) sc_law_warmed.nd rfl (.inl rfl) (de_callB (call_minD rfl) (by rfl) m_min (by decide +kernel) (da_cons (de_op op_mulD de_int (de_ix hu (de_ix hu (dv 0) de_int (fun _ _ => rfl)) de_int (fun _ _ => rfl))) (da_cons (de_callB (call_maxD rfl) (by rfl) m_max (by decide +kernel) (da_cons de_int (da_cons (dv 3) da_nil))) da_nil))))
        (dss_cons (ds_set (i := 4) sc_law_warmed.nd rfl (.inl rfl) (de_op op_modD (de_callTy call_intD (by rfl) m_int (by decide +kernel) (da_cons (de_op op_addD (de_ix hu (dv 1) de_int (fun _ _ => rfl)) de_int) da_nil)) (de_cal c_law_period (hr.mono (by decide)) (by rfl) pass0 (da_cons (dv 0) da_nil))))
        (dss_one (ds_ret (de_tup (da_cons (dv 3) (da_cons (de_ix hu (dv 1) de_int (fun _ _ => rfl)) (da_cons (de_ix hu (dv 1) de_int (fun _ _ => rfl)) (da_cons (dv 4) (da_cons (de_ix hu (dv 1) de_int (fun _ _ => rfl)) da_nil))))))))))), ?_⟩
  rintro ds M Q EX ⟨h, s, w, rfl, o, q⟩
  have q := fin.same q
  walk_at "st"
  refine ⟨h, s, w, rfl, o, ?_⟩
  have pp := period_pos o
  walk_at "st"
  refine ⟨h, rfl, o, ?_⟩
  walk_at "st"
  exact q

abbrev s_law_tick : Stmt := topS 82
theorem sc_law_tick : FnScope ["_law_house_here", "_law_stand", "_law_weather", "_law_mine", "_law_yours"] ["_law_house_here", "_law_stand", "_law_weather"] (defScope s_law_tick) := ⟨rfl, rfl, rfl, by decide +kernel, rfl, by decide +kernel, by decide +kernel⟩
def sp_law_tick : DSp := fun ds M Q _ => ∃ h s w, ds = [houseD h, standD s, .str (Wth.s w)] ∧ h.Ok ∧ s.Ok h ∧ Q (.tup [standD (tickS h s w), pairD h s, standD (midS h s)]) M
theorem ok_law_tick {f : Addr} {fd : FuncData} (c_law_look : Cal P w K mg base CX0 "_law_look" 2 ["_law_house_here", "_law_stand", "_law_who"] sp_law_look) (c_law_warmed : Cal P w K mg base CX0 "_law_warmed" 2 ["_law_house_here", "_law_stand", "_law_weather"] sp_law_warmed) (F : Fun K "_law_tick" "_law_tick" s_law_tick f fd) : DFn P w K mg base CX0 3 f fd ["_law_house_here", "_law_stand", "_law_weather"] sp_law_tick := by
  refine dfn_ok F sc_law_tick (by walk_at "len") fun cdv A outer s H E hr => ?_
  have hu := hr.units
  refine ⟨_, (dss_cons (ds_asg (de_cal c_law_look (hr.mono (by decide)) (by rfl) pass0 (da_cons (dv 0) (da_cons (dv 1) (da_cons de_int da_nil)))) (dg_tup (is := [1, 3]) (pg_tup rfl (pgs_cons (pg_name (i := 1) sc_law_tick.nd rfl (Or.inl rfl)) (pgs_cons (pg_name (i := 3) sc_law_tick.nd rfl (Or.inl rfl)) pgs_nil))) rfl))
        (dss_cons (ds_asg (de_cal c_law_look (hr.mono (by decide)) (by rfl) pass0 (da_cons (dv 0) (da_cons (dv 1) (da_cons de_int da_nil)))) (dg_tup (is := [1, 4]) (pg_tup rfl (pgs_cons (pg_name (i := 1) sc_law_tick.nd rfl (Or.inl rfl)) (pgs_cons (pg_name (i := 4) sc_law_tick.nd rfl (Or.inl rfl)) pgs_nil))) rfl))
        (dss_one (ds_ret (de_tup (da_cons (de_cal c_law_warmed (hr.mono (by decide)) (by rfl) pass0 (da_cons (dv 0) (da_cons (dv 1) (da_cons (dv 2) da_nil)))) (da_cons (de_tup (da_cons (dv 3) (da_cons (dv 4) da_nil))) (da_cons (dv 1) da_nil)))))))), ?_⟩
  rintro ds M Q EX ⟨h, s, w, rfl, o, so, q⟩
  have q := fin.same q
  walk_at "st"
  refine ⟨h, s, false, rfl, o, so, ?_⟩
  walk_at "st"
  refine ⟨h, lookS h s false, true, rfl, o, lookS_ok o so false, ?_⟩
  walk_at "st"
  refine ⟨h, midS h s, w, rfl, o, ?_⟩
  walk_at "st"
  exact q
end
end L3

/-! The law's own: runs, its graph. -/
namespace L3
open PySem PySem.Spec PyProof.Rows L2
local macro_rules | `(tactic| walk_at "mem") => `(tactic| first | assumption | exact mset_same | (refine (mset_ne ?_).trans ?_ <;> first | assumption | exact Ne.symm (by assumption) | exact mset_same | (refine (mset_ne ?_).trans ?_ <;> first | assumption | exact Ne.symm (by assumption) | exact mset_same)))
local macro_rules | `(tactic| walk_at "line") => `(tactic| first | decide | (simp only [List.length_cons, List.length_nil, List.length_map, List.length_append]; first | decide | omega) | (refine sl_b ?_; simp only [List.length_cons, List.length_nil, List.length_map, List.length_append]; first | decide | omega))
local macro_rules | `(tactic| walk_at "s1") => `(tactic| first
  | ((with_reducible refine' k_var ?g0 ?_); (case g0 => exact rfl))
  | ((with_reducible refine' k_seqN ?g0 ?_); (case g0 => (try simp only [startD, g_cons, g_nil, List.map_cons, List.map_nil, List.length_cons, List.length_nil, Nat.reduceAdd, Nat.reduceSub, List.replicate_succ, List.replicate_zero, List.cons_append, List.nil_append, List.set_cons_zero, List.set_cons_succ, List.zip_cons_cons, List.zip_nil_right, List.zip_nil_left]); try exact rfl))
  | ((with_reducible refine' k_retN ?g0 ?_); (case g0 => (try simp only [startD, g_cons, g_nil, List.map_cons, List.map_nil, List.length_cons, List.length_nil, Nat.reduceAdd, Nat.reduceSub, List.replicate_succ, List.replicate_zero, List.cons_append, List.nil_append, List.set_cons_zero, List.set_cons_succ, List.zip_cons_cons, List.zip_nil_right, List.zip_nil_left]); try exact rfl))
  | (with_reducible refine k_nedev ?_)
  | (with_reducible refine k_ifS ?_)
  | (with_reducible refine k_next ?_)
  | (with_reducible refine k_drop ?_)
  | (with_reducible refine k_set ?_)
  | (with_reducible refine k_asg ?_)
  | (with_reducible refine k_sub ?_)
  | (with_reducible refine k_par ?_)
  | (with_reducible refine k_asP ?_)
  | (with_reducible refine k_par3 ?_)
  | (with_reducible refine k_asP3 ?_)
  | (with_reducible refine k_aug ?_)
  | (with_reducible refine k_for ?_)
  | (with_reducible refine k_B ?_)
  | (with_reducible refine k_asB ?_)
  | (with_reducible refine k_and ?_)
  | (with_reducible refine k_or ?_)
  | (with_reducible refine k_not ?_)
  | (with_reducible refine k_andV ?_)
  | (with_reducible refine k_orV ?_)
  | (with_reducible refine k_notV ?_)
  | (with_reducible refine k_chain ?_)
  | (with_reducible refine k_yes ?_)
  | (with_reducible refine k_if ?_)
  | (with_reducible refine k_c ?_)
  | (with_reducible refine k_op ?_)
  | (with_reducible refine k_nil ?_)
  | (with_reducible refine k_cons ?_)
  | (with_reducible refine k_tup ?_)
  | (with_reducible refine k_lst ?_)
  | (with_reducible refine k_call ?_)
  | (with_reducible refine k_fn ?_)
  | (with_reducible refine k_sl ?_)
  | (with_reducible refine k_app ?_)
  | (with_reducible refine k_pop ?_)
  | (with_reducible refine k_it ?_)
  | (with_reducible refine k_ik ?_)
  | (with_reducible refine k_il ?_)
  | (with_reducible refine k_ir ?_)
  | (with_reducible refine k_lc ?_)
  | (with_reducible refine k_addi ?_)
  | (with_reducible refine k_iaddi ?_)
  | (with_reducible refine k_eqi ?_)
  | (with_reducible refine k_nei ?_)
  | (with_reducible refine k_eqs ?_)
  | (with_reducible refine k_nes ?_)
  | (with_reducible refine k_eqb ?_)
  | (with_reducible refine k_neb ?_)
  | (with_reducible refine k_eqst ?_)
  | (with_reducible refine k_isN ?_)
  | (with_reducible refine k_notN ?_)
  | (with_reducible refine k_rsls ?_)
  | (with_reducible refine k_rsl ?_)
  | (with_reducible refine k_lent ?_)
  | (with_reducible refine k_i2 ?_)
  | (with_reducible refine k_toi ?_)
  | (with_reducible refine k_tob ?_)
  | (with_reducible refine k_itw ?_)
  | (with_reducible refine k_itt ?_)
  | (with_reducible refine k_lc2 ?_)
  | (with_reducible refine k_get ?_)
  | (with_reducible refine k_dc ?_)
  | ((with_reducible refine' k_ask ?g0 ?_); (case g0 => exact rfl))
  | ((with_reducible refine' k_ix ?g0 ?_); (case g0 => exact rfl))
  | ((with_reducible refine' k_lix ?g0 ?g1 ?_); (case g0 => walk_at "mem"); (case g1 => exact rfl))
  | ((with_reducible refine' k_int ?g0 ?_); (case g0 => first | exact trivial | exact cm2 | (show (0 : Int) < _; omega) | (show CMul _ _; exact .inl ⟨by omega, by omega⟩) | (show CMul _ _; exact .inr ⟨by omega, by omega⟩) | (show CDiv _ _; exact ⟨by omega, by omega⟩) | exact ⟨by decide, by decide⟩))
  | ((with_reducible refine' k_addt ?g0 ?_); (case g0 => walk_at "line"))
  | ((with_reducible refine' sl_s ?g0 ?_); (case g0 => walk_at "line"))
  | ((with_reducible refine' k_inT ?g0 ?g1 ?_); (case g0 => exact rfl); (case g1 => exact rfl))
  | ((with_reducible refine' k_ninT ?g0 ?g1 ?_); (case g0 => exact rfl); (case g1 => exact rfl))
  | ((with_reducible refine' k_inL ?g0 ?g1 ?g2 ?_); (case g0 => walk_at "mem"); (case g1 => exact rfl); (case g2 => exact rfl))
  | ((with_reducible refine' k_ninL ?g0 ?g1 ?g2 ?_); (case g0 => walk_at "mem"); (case g1 => exact rfl); (case g2 => exact rfl))
  | ((with_reducible refine' k_lenl ?g0 ?_); (case g0 => walk_at "mem"))
  | ((with_reducible refine' k_ninD ?g0 ?_); (case g0 => walk_at "mem"))
  | ((with_reducible refine' k_inD ?g0 ?_); (case g0 => walk_at "mem"))
  | ((with_reducible refine' k_rik ?g0 ?_); (case g0 => walk_at "mem"))
  | ((with_reducible refine' k_ril ?g0 ?_); (case g0 => walk_at "mem"))
  | ((with_reducible refine' k_isi ?g0 ?g1 ?_); (case g0 => exact rfl); (case g1 => exact rfl))
  | ((with_reducible refine' k_isl ?g0 ?_); (case g0 => walk_at "mem"))
  | ((with_reducible refine' k_rget ?g0 ?_); (case g0 => walk_at "mem"))
  | ((with_reducible refine' k_dix ?g0 ?g1 ?_); (case g0 => walk_at "mem"); (case g1 => assumption))
  | ((with_reducible refine' k_iaddl ?g0 ?g1 ?g2 ?_); (case g0 => walk_at "mem"); (case g1 => walk_at "mem"); (case g2 => walk_at "line"))
  | ((with_reducible refine' k_addl ?g0 ?g1 ?g2 ?_); (case g0 => walk_at "mem"); (case g1 => walk_at "mem"); (case g2 => walk_at "line"))
  | ((with_reducible refine' k_rall ?g0 ?g1 ?_); (case g0 => walk_at "mem"); (case g1 => exact rfl))
  | ((with_reducible refine' k_tot ?g0 ?_); (case g0 => walk_at "mem"))
  | ((with_reducible refine' k_t ?g0 ?_); (case g0 => exact rfl))
  | ((with_reducible refine' k_f ?g0 ?_); (case g0 => exact rfl)))
local macro_rules | `(tactic| walk_at "st") => `(tactic| (repeat (walk_at "s1")); try dsimp only)
local macro_rules | `(tactic| walk_at "c") => `(tactic| try simp only [inV_two, d_no, d_on, d_off, d_open, d_shut, d_no', d_on', d_off', d_open', d_shut', w_cold, w_cold', v_heat, reduceCtorEq, decide_true, decide_false, Bool.or_false, Bool.false_or, Bool.or_true, Bool.true_or, Bool.not_true, Bool.not_false, Bool.false_eq_true, Bool.true_eq_false, if_true, if_false, reduceIte])
local macro_rules | `(tactic| walk_at "len") => `(tactic| (intro ds M Q EX h; repeat (obtain ⟨x, h⟩ := h; try (subst x; exact rfl))))
theorem walk_take {h : House} {s : Stand} {r : List Wth} {i : Nat} {w : Wth} (e : r[i]? = some w) : walkS h s (r.take (i + 1)) = tickS h (walkS h s (r.take i)) w := by
  rw [List.take_add_one, e, Option.toList_some, walkS_app]
  rfl
structure LInv (h : House) (M0 : Mm) (f l : Addr) (K S : List Stand) (M' : Mm) : Prop where
  le : Le M0 M'
  l0 : M0 l = none
  lf : l ≠ f
  hf : ∃ o kvs, M' f = some (.dct o kvs) ∧ keysOf kvs = K ∧ ∀ p ∈ kvs, ∃ r, p.2 = .obj r ∧ r ≠ l ∧ M' r = some (.lst (h.ws.map (rowD h p.1)))
  hl : M' l = some (.lst (S.map standD))
  nd : K.Nodup
  rk : ∀ x ∈ K, Reach h x
  rs : ∀ x ∈ S, Reach h x
  len : S.length ≤ 36 + 2 * K.length
  st : ∀ t ∈ starts h, begin0 t ∈ K ∨ begin0 t ∈ S
  nx : ∀ x ∈ K, ∀ w ∈ h.ws, tickS h x w ∈ K ∨ tickS h x w ∈ S
theorem LInv.new {h : House} {M0 M' : Mm} {f l : Addr} {K S : List Stand} (G : LInv h M0 f l K S M') {b : Addr} {o : MO} (hb : M' b = none) : LInv h M0 f l K S (mset M' b o) := by
  obtain ⟨ob, kvs, e1, e2, e3⟩ := G.hf
  exact ⟨G.le.at (G.le.free hb), G.l0, G.lf, ⟨ob, kvs, (mset_ne (mne e1 hb)).trans e1, e2, fun p hp => let ⟨r, a1, a2, a3⟩ := e3 p hp; ⟨r, a1, a2, (mset_ne (mne a3 hb)).trans a3⟩⟩, (mset_ne (mne G.hl hb)).trans G.hl, G.nd, G.rk, G.rs, G.len, G.st, G.nx⟩
section
variable {P : Program} {w : World} {K : PySem.W.Frag} {mg : Str → Option Value} {base : Heap}
abbrev s_law_led : Stmt := topS 83
theorem sc_law_led : FnScope ["_law_house_here", "_law_start", "_law_run", "_law_warm_here", "_law_stand", "_law_rows", "_law_weather", "_law_there", "_law_both", "_law_middle", "_law_number", "_law_top"] ["_law_house_here", "_law_start", "_law_run"] (defScope s_law_led) := ⟨rfl, rfl, rfl, by decide +kernel, rfl, by decide +kernel, by decide +kernel⟩
def sp_law_led : DSp := fun ds M Q _ => ∃ (h : House) (s : St0) (r : List Wth), ds = [houseD h, startDt s, runD r] ∧ h.Ok ∧ s ∈ starts h ∧ (∀ w ∈ r, w ∈ h.ws) ∧ r.length ≤ 3000 ∧ ∀ d e M', Le M M' → Q (.tup [d, .tup [e, standD (walkS h (begin0 s) r)]]) M'
theorem ok_law_led {f : Addr} {fd : FuncData} (c_law_begin : Cal P w K mg base CX0 "_law_begin" 2 ["_law_start"] sp_law_begin) (c_law_tick : Cal P w K mg base CX0 "_law_tick" 3 ["_law_house_here", "_law_stand", "_law_weather"] sp_law_tick) (c_law_frac : Cal P w K mg base CX0 "_law_frac" 1 ["_law_top", "_law_below"] sp_law_frac) (c_law_gain : Cal P w K mg base CX0 "_law_gain" 1 ["_law_house_here", "_law_stand", "_law_weather"] sp_law_gain) (m_max : mg "max" = none) (F : Fun K "_law_led" "_law_led" s_law_led f fd) : DFn P w K mg base CX0 4 f fd ["_law_house_here", "_law_start", "_law_run"] sp_law_led := by
  refine dfn_ok F sc_law_led (by walk_at "len") fun cdv A outer s H E hr => ?_
  have hu := hr.units
  refine ⟨_, (dss_cons (ds_par3 (i := 3) (j := 4) (l := 5) (ps_par3 (by rfl) sc_law_led.nd rfl rfl rfl (by decide) (by decide) (by decide) rfl rfl rfl (da_cons (de_ix hu (dv 1) de_int (fun _ _ => rfl)) (da_cons (de_cal c_law_begin (hr.mono (by decide)) (by rfl) pass0 (da_cons (dv 1) da_nil)) (da_cons (de_lst da_nil) da_nil))) (by rfl)))
        (dss_cons (ds_for PassesOwn.never rfl (di_tup (dv 2)) (dg_name (pg_name (i := 6) sc_law_led.nd rfl (Or.inl rfl))) (dss_cons (ds_asg (de_cal c_law_tick (hr.mono (by decide)) (by rfl) pass0 (da_cons (dv 0) (da_cons (dv 4) (da_cons (dv 6) da_nil)))) (dg_tup (is := [7, 8, 9]) (pg_tup rfl (pgs_cons (pg_name (i := 7) sc_law_led.nd rfl (Or.inl rfl)) (pgs_cons (pg_name (i := 8) sc_law_led.nd rfl (Or.inl rfl)) (pgs_cons (pg_name (i := 9) sc_law_led.nd rfl (Or.inl rfl)) pgs_nil)))) rfl))
        (dss_cons (ds_expr (de_append (dv 5) (de_tup (da_cons (dv 3) (da_cons (dv 4) (da_cons (dv 8) (da_cons (dv 9) da_nil)))))))
        (dss_cons (ds_set (i := 10) sc_law_led.nd rfl (.inl rfl) (de_op op_addD (de_ix hu (dv 3) de_int (fun _ _ => rfl)) (de_op op_mulD (de_cal c_law_gain (hr.mono (by decide)) (by rfl) pass0 (da_cons (dv 0) (da_cons (dv 9) (da_cons (dv 6) da_nil)))) (de_ix hu (dv 3) de_int (fun _ _ => rfl)))))
        (dss_cons (ds_par (i := 10) (j := 11) (ps_par (by rfl) sc_law_led.nd rfl rfl (by decide) rfl rfl (da_cons (de_callB (call_maxD rfl) (by rfl) m_max (by decide +kernel) (da_cons de_int (da_cons (dv 10) da_nil))) (da_cons (de_ix hu (de_ix hu (dv 0) de_int (fun _ _ => rfl)) de_int (fun _ _ => rfl)) da_nil)) (by rfl)))
        (dss_cons (ds_set (i := 3) sc_law_led.nd rfl (.inl rfl) (de_if (dt_cmp op_gtD (dv 10) (de_op op_mulD (dv 11) (de_ix hu (dv 3) de_int (fun _ _ => rfl))) (nomark _)) (de_tup (da_cons (dv 11) (da_cons de_int da_nil))) (de_cal c_law_frac (hr.mono (by decide)) (by rfl) pass0 (da_cons (dv 10) (da_cons (de_ix hu (dv 3) de_int (fun _ _ => rfl)) da_nil)))))
        (dss_one (ds_set (i := 4) sc_law_led.nd rfl (.inl rfl) (dv 7)))))))))
        (dss_one (ds_ret (de_tup (da_cons (dv 5) (da_cons (de_tup (da_cons (dv 3) (da_cons (dv 4) da_nil))) da_nil))))))), ?_⟩
  rintro ds M Q EX ⟨h, s, r, rfl, o, hs, hr, hl, q⟩
  have ht := o.top
  have hs0 := starts_n o hs
  obtain ⟨T, hT⟩ := Int.eq_ofNat_of_zero_le (show 0 ≤ h.top by omega)
  unfold startDt
  walk_at "st"
  refine ⟨s, rfl, ?_⟩
  walk_at "st"
  intro l hl0
  walk_at "st"
  show forBody (srcC (r.map fun w => D.str w.s)) _ _ _ _ _
  refine ⟨r.map (fun w : Wth => D.str w.s), fun i Γ' M' => ∃ (n : Nat) (xs : List D) (x6 x7 x8 x9 x10 x11 : Option D), (n : Int) ≤ 2 * h.top ∧ xs.length = i ∧ Le M M' ∧ M' l = some (.lst xs) ∧
    Γ' = [some (houseD h), some (startDt s), some (runD r), some (frW n), some (standD (walkS h (begin0 s) (r.take i))), some (.obj l), x6, x7, x8, x9, x10, x11], fun _ _ _ _ => rfl, ⟨s.n, [], none, none, none, none, none, none, hs0, rfl, Le.rfl'.at hl0, mset_same, rfl⟩, fun i d Γ' M' hi ⟨n, xs, x6, x7, x8, x9, x10, x11, hn, hx, le, hM, eΓ⟩ => ?_, fun Γ' M' ⟨n, xs, x6, x7, x8, x9, x10, x11, hn, hx, le, hM, eΓ⟩ => ?_⟩
  · subst eΓ
    rw [List.getElem?_map] at hi
    obtain ⟨w, hw, rfl⟩ := Option.map_eq_some_iff.mp hi
    have hil := (List.getElem?_eq_some_iff.mp hw).1
    have so : (walkS h (begin0 s) (r.take i)).Ok h := RunTo.ok o (r := r.take i) (a := begin0 s) ⟨fun u z => hr u (List.mem_of_mem_take z), rfl⟩ (begin0_ok o hs)
    have wt := walk_take (h := h) (s := begin0 s) hw
    generalize walkS h (begin0 s) (r.take i) = t at so wt ⊢
    have hg := gain_le (s := midS h t) o w
    refine k_ask rfl ?_
    walk_at "st"
    refine ⟨h, t, w, rfl, o, so, ?_⟩
    refine k_ask rfl ?_
    walk_at "st"
    refine k_rapp hM (line3 (by omega)) ?_
    walk_at "st"
    have le2 : Le M (mset M' l (.lst (xs ++ [.tup [frW n, standD t, pairD h t, standD (midS h t)]]))) := le.at hl0
    generalize hM2 : mset M' l (.lst (xs ++ [.tup [frW n, standD t, pairD h t, standD (midS h t)]])) = M2 at le2 ⊢
    have hMl : M2 l = some (.lst (xs ++ [.tup [frW n, standD t, pairD h t, standD (midS h t)]])) := by rw [← hM2]; exact mset_same
    obtain ⟨tt, b, efr, hb, htn⟩ : ∃ tt b : Nat, frW n = .tup [.int (.ofNat tt), .int (.ofNat b)] ∧ (b = 1 ∨ b = 2) ∧ 2 * tt = n * b := by
      unfold frW
      by_cases e : n % 2 = 0
      · rw [if_pos e]; exact ⟨n / 2, 1, rfl, .inl rfl, by omega⟩
      · rw [if_neg e]; exact ⟨n, 2, rfl, .inr rfl, by omega⟩
    rw [efr]
    walk_at "st"
    refine ⟨h, midS h t, w, rfl, o, ?_⟩
    generalize gain h (midS h t) w = G at hg ⊢
    have fine : ∀ (n' : Nat) (y10 y11 : Option D), (n' : Int) ≤ 2 * h.top → ∃ (n : Nat) (xs : List D) (x6 x7 x8 x9 x10 x11 : Option D), (n : Int) ≤ 2 * h.top ∧ xs.length = i + 1 ∧ Le M M2 ∧ M2 l = some (.lst xs) ∧
        [some (houseD h), some (startDt s), some (runD r), some (frW n'), some (standD (tickS h t w)), some (.obj l), some (.str w.s), some (standD (tickS h t w)), some (pairD h t), some (standD (midS h t)), y10, y11] =
        [some (houseD h), some (startDt s), some (runD r), some (frW n), some (standD (walkS h (begin0 s) (r.take (i + 1)))), some (.obj l), x6, x7, x8, x9, x10, x11] := fun n' y10 y11 hn' =>
      ⟨n', xs ++ [.tup [frW n, standD t, pairD h t, standD (midS h t)]], _, _, _, _, _, _, hn', by simp [hx], le2, hMl, by rw [wt]⟩
    walk_at "st"
    generalize hN : max 0 (Int.ofNat tt + G * Int.ofNat b) = N
    have hN' : max 0 ((tt : Int) + G * (b : Int)) = N := hN
    have hN0 : 0 ≤ N := by omega
    by_cases hc : h.top * Int.ofNat b < N
    · refine k_t (decide_eq_true hc) ?_
      walk_at "st"
      have := fine (2 * T) (some (.int N)) (some (.int h.top)) (by omega)
      rw [frW_even] at this
      rw [show D.int h.top = D.int (Int.ofNat T) by rw [hT]; rfl] at this ⊢
      exact this
    · refine k_f (decide_eq_false hc) ?_
      walk_at "st"
      obtain ⟨k, rfl⟩ := Int.eq_ofNat_of_zero_le hN0
      have hc' : ¬ h.top * (b : Int) < (k : Int) := hc
      refine ⟨k, b, rfl, hb, ?_⟩
      walk_at "st"
      refine fine (frO k b) (some (.int k)) (some (.int h.top)) ?_
      unfold frO
      rcases hb with rfl | rfl
      · rw [if_pos rfl]; omega
      · rw [if_neg (by decide)]; omega
  · subst eΓ
    rw [List.length_map, List.take_length]
    walk_at "st"
    exact fin.same (q _ _ M' le)
end
end L3

/-! The law's own: its graph, what is behind. -/
namespace L3
open PySem PySem.Spec PyProof.Rows L2
local macro_rules | `(tactic| walk_at "mem") => `(tactic| first | assumption | exact mset_same | (refine (mset_ne ?_).trans ?_ <;> first | assumption | exact Ne.symm (by assumption) | exact mset_same | (refine (mset_ne ?_).trans ?_ <;> first | assumption | exact Ne.symm (by assumption) | exact mset_same)))
local macro_rules | `(tactic| walk_at "line") => `(tactic| first | decide | (simp only [List.length_cons, List.length_nil, List.length_map, List.length_append]; first | decide | omega) | (refine sl_b ?_; simp only [List.length_cons, List.length_nil, List.length_map, List.length_append]; first | decide | omega))
local macro_rules | `(tactic| walk_at "s1") => `(tactic| first
  | ((with_reducible refine' k_var ?g0 ?_); (case g0 => exact rfl))
  | ((with_reducible refine' k_seqN ?g0 ?_); (case g0 => (try simp only [startD, g_cons, g_nil, List.map_cons, List.map_nil, List.length_cons, List.length_nil, Nat.reduceAdd, Nat.reduceSub, List.replicate_succ, List.replicate_zero, List.cons_append, List.nil_append, List.set_cons_zero, List.set_cons_succ, List.zip_cons_cons, List.zip_nil_right, List.zip_nil_left]); try exact rfl))
  | ((with_reducible refine' k_retN ?g0 ?_); (case g0 => (try simp only [startD, g_cons, g_nil, List.map_cons, List.map_nil, List.length_cons, List.length_nil, Nat.reduceAdd, Nat.reduceSub, List.replicate_succ, List.replicate_zero, List.cons_append, List.nil_append, List.set_cons_zero, List.set_cons_succ, List.zip_cons_cons, List.zip_nil_right, List.zip_nil_left]); try exact rfl))
  | (with_reducible refine k_nedev ?_)
  | (with_reducible refine k_ifS ?_)
  | (with_reducible refine k_next ?_)
  | (with_reducible refine k_drop ?_)
  | (with_reducible refine k_set ?_)
  | (with_reducible refine k_asg ?_)
  | (with_reducible refine k_sub ?_)
  | (with_reducible refine k_par ?_)
  | (with_reducible refine k_asP ?_)
  | (with_reducible refine k_par3 ?_)
  | (with_reducible refine k_asP3 ?_)
  | (with_reducible refine k_aug ?_)
  | (with_reducible refine k_for ?_)
  | (with_reducible refine k_B ?_)
  | (with_reducible refine k_asB ?_)
  | (with_reducible refine k_and ?_)
  | (with_reducible refine k_or ?_)
  | (with_reducible refine k_not ?_)
  | (with_reducible refine k_andV ?_)
  | (with_reducible refine k_orV ?_)
  | (with_reducible refine k_notV ?_)
  | (with_reducible refine k_chain ?_)
  | (with_reducible refine k_yes ?_)
  | (with_reducible refine k_if ?_)
  | (with_reducible refine k_c ?_)
  | (with_reducible refine k_op ?_)
  | (with_reducible refine k_nil ?_)
  | (with_reducible refine k_cons ?_)
  | (with_reducible refine k_tup ?_)
  | (with_reducible refine k_lst ?_)
  | (with_reducible refine k_call ?_)
  | (with_reducible refine k_fn ?_)
  | (with_reducible refine k_sl ?_)
  | (with_reducible refine k_app ?_)
  | (with_reducible refine k_pop ?_)
  | (with_reducible refine k_it ?_)
  | (with_reducible refine k_ik ?_)
  | (with_reducible refine k_il ?_)
  | (with_reducible refine k_ir ?_)
  | (with_reducible refine k_lc ?_)
  | (with_reducible refine k_addi ?_)
  | (with_reducible refine k_iaddi ?_)
  | (with_reducible refine k_eqi ?_)
  | (with_reducible refine k_nei ?_)
  | (with_reducible refine k_eqs ?_)
  | (with_reducible refine k_nes ?_)
  | (with_reducible refine k_eqb ?_)
  | (with_reducible refine k_neb ?_)
  | (with_reducible refine k_eqst ?_)
  | (with_reducible refine k_isN ?_)
  | (with_reducible refine k_notN ?_)
  | (with_reducible refine k_rsls ?_)
  | (with_reducible refine k_rsl ?_)
  | (with_reducible refine k_lent ?_)
  | (with_reducible refine k_i2 ?_)
  | (with_reducible refine k_toi ?_)
  | (with_reducible refine k_tob ?_)
  | (with_reducible refine k_itw ?_)
  | (with_reducible refine k_itt ?_)
  | (with_reducible refine k_lc2 ?_)
  | (with_reducible refine k_get ?_)
  | (with_reducible refine k_dc ?_)
  | ((with_reducible refine' k_ask ?g0 ?_); (case g0 => exact rfl))
  | ((with_reducible refine' k_ix ?g0 ?_); (case g0 => exact rfl))
  | ((with_reducible refine' k_lix ?g0 ?g1 ?_); (case g0 => walk_at "mem"); (case g1 => exact rfl))
  | ((with_reducible refine' k_int ?g0 ?_); (case g0 => first | exact trivial | exact cm2 | (show (0 : Int) < _; omega) | (show CMul _ _; exact .inl ⟨by omega, by omega⟩) | (show CMul _ _; exact .inr ⟨by omega, by omega⟩) | (show CDiv _ _; exact ⟨by omega, by omega⟩) | exact ⟨by decide, by decide⟩))
  | ((with_reducible refine' k_addt ?g0 ?_); (case g0 => walk_at "line"))
  | ((with_reducible refine' sl_s ?g0 ?_); (case g0 => walk_at "line"))
  | ((with_reducible refine' k_inT ?g0 ?g1 ?_); (case g0 => exact rfl); (case g1 => exact rfl))
  | ((with_reducible refine' k_ninT ?g0 ?g1 ?_); (case g0 => exact rfl); (case g1 => exact rfl))
  | ((with_reducible refine' k_inL ?g0 ?g1 ?g2 ?_); (case g0 => walk_at "mem"); (case g1 => exact rfl); (case g2 => exact rfl))
  | ((with_reducible refine' k_ninL ?g0 ?g1 ?g2 ?_); (case g0 => walk_at "mem"); (case g1 => exact rfl); (case g2 => exact rfl))
  | ((with_reducible refine' k_lenl ?g0 ?_); (case g0 => walk_at "mem"))
  | ((with_reducible refine' k_ninD ?g0 ?_); (case g0 => walk_at "mem"))
  | ((with_reducible refine' k_inD ?g0 ?_); (case g0 => walk_at "mem"))
  | ((with_reducible refine' k_rik ?g0 ?_); (case g0 => walk_at "mem"))
  | ((with_reducible refine' k_ril ?g0 ?_); (case g0 => walk_at "mem"))
  | ((with_reducible refine' k_isi ?g0 ?g1 ?_); (case g0 => exact rfl); (case g1 => exact rfl))
  | ((with_reducible refine' k_isl ?g0 ?_); (case g0 => walk_at "mem"))
  | ((with_reducible refine' k_rget ?g0 ?_); (case g0 => walk_at "mem"))
  | ((with_reducible refine' k_dix ?g0 ?g1 ?_); (case g0 => walk_at "mem"); (case g1 => assumption))
  | ((with_reducible refine' k_iaddl ?g0 ?g1 ?g2 ?_); (case g0 => walk_at "mem"); (case g1 => walk_at "mem"); (case g2 => walk_at "line"))
  | ((with_reducible refine' k_addl ?g0 ?g1 ?g2 ?_); (case g0 => walk_at "mem"); (case g1 => walk_at "mem"); (case g2 => walk_at "line"))
  | ((with_reducible refine' k_rall ?g0 ?g1 ?_); (case g0 => walk_at "mem"); (case g1 => exact rfl))
  | ((with_reducible refine' k_tot ?g0 ?_); (case g0 => walk_at "mem"))
  | ((with_reducible refine' k_t ?g0 ?_); (case g0 => exact rfl))
  | ((with_reducible refine' k_f ?g0 ?_); (case g0 => exact rfl)))
local macro_rules | `(tactic| walk_at "st") => `(tactic| (repeat (walk_at "s1")); try dsimp only)
local macro_rules | `(tactic| walk_at "c") => `(tactic| try simp only [inV_two, d_no, d_on, d_off, d_open, d_shut, d_no', d_on', d_off', d_open', d_shut', w_cold, w_cold', v_heat, reduceCtorEq, decide_true, decide_false, Bool.or_false, Bool.false_or, Bool.or_true, Bool.true_or, Bool.not_true, Bool.not_false, Bool.false_eq_true, Bool.true_eq_false, if_true, if_false, reduceIte])
local macro_rules | `(tactic| walk_at "len") => `(tactic| (intro ds M Q EX h; repeat (obtain ⟨x, h⟩ := h; try (subst x; exact rfl))))
theorem lay_stands {S : List Stand} : ∀ d ∈ S.map standD, Lay d := fun d hd => by
  obtain ⟨s, _, rfl⟩ := List.mem_map.mp hd
  exact lay_stand s
theorem map_ne {S : List Stand} : (!(S.map standD).isEmpty) = (!S.isEmpty) := by cases S <;> rfl
theorem last_ix (S : List Stand) (s : Stand) : ((S ++ [s]).map standD)[((S ++ [s]).map standD).length - 1]? = some (standD s) := by
  rw [List.map_append, List.length_append, List.length_map]
  simp
theorem drop_ix (S : List Stand) (s : Stand) : ((S ++ [s]).map standD).dropLast = S.map standD := by
  rw [List.map_append]
  simp
section
variable {P : Program} {w : World} {K : PySem.W.Frag} {mg : Str → Option Value} {base : Heap}
abbrev s_law_graph : Stmt := topS 84
theorem sc_law_graph : FnScope ["_law_house_here", "_law_found", "_law_line", "_law_stand", "_law_start", "_law_weather", "_law_row"] ["_law_house_here"] (defScope s_law_graph) := ⟨rfl, rfl, rfl, by decide +kernel, rfl, by decide +kernel, by decide +kernel⟩
def sp_law_graph : DSp := fun ds M Q _ => ∃ h, ds = [houseD h] ∧ h.Ok ∧ ∀ f o kvs M', M f = none → Le M M' → M' f = some (.dct o kvs) → Graph h M' kvs → Q (.obj f) M'
theorem ok_law_graph {f : Addr} {fd : FuncData} (c_law_begin : Cal P w K mg base CX0 "_law_begin" 2 ["_law_start"] sp_law_begin) (c_law_starts : Cal P w K mg base CX0 "_law_starts" 2 ["_law_house_here"] sp_law_starts) (c_law_tick : Cal P w K mg base CX0 "_law_tick" 3 ["_law_house_here", "_law_stand", "_law_weather"] sp_law_tick) (F : Fun K "_law_graph" "_law_graph" s_law_graph f fd) : DFn P w K mg base CX0 4 f fd ["_law_house_here"] sp_law_graph := by
  refine dfn_ok F sc_law_graph (by walk_at "len") fun cdv A outer s H E hr => ?_
  have hu := hr.units
  refine ⟨_, (dss_cons (ds_par (i := 1) (j := 2) (ps_par (by rfl) sc_law_graph.nd rfl rfl (by decide) rfl rfl (da_cons de_new (da_cons (de_lc (own := [("_law_start", 4)]) rfl sc_law_graph.nd (di_list (de_cal c_law_starts (hr.mono (by decide)) (by rfl) pass0 (da_cons (dv 0) da_nil))) (blkOk_by (own := [("_law_start", 4)]) (N := ["_law_house_here", "_law_found", "_law_line", "_law_stand", "_law_start", "_law_weather", "_law_row"]) (sc := defScope s_law_graph) (by decide +kernel)) (fun _ _ _ _ _ => (dg_name (pg_name (i := 4) sc_law_graph.nd rfl (Or.inl rfl)))) (fun _ _ _ _ _ => dts_nil) (fun _ _ _ _ _ => (de_cal c_law_begin (hr.mono (by decide)) (by rfl) pass0 (da_cons (dv 4) da_nil)))) da_nil)) (by rfl)))
        (dss_cons (ds_while PassesOwn.never (dt_cmp (op_neDD hu) (dv 2) (de_lst da_nil) (nomark _)) (dss_cons (ds_set (i := 3) sc_law_graph.nd rfl (.inr rfl) (de_pop (dv 2)))
        (dss_one (ds_if (dt_cmp (op_ninDD hu) (dv 3) (dv 1) (by rfl)) (dss_cons (ds_sub hu (de_lc (own := [("_law_weather", 5)]) rfl sc_law_graph.nd (di_tup (de_ix hu (dv 0) de_int (fun _ _ => rfl))) (blkOk_by (own := [("_law_weather", 5)]) (N := ["_law_house_here", "_law_found", "_law_line", "_law_stand", "_law_start", "_law_weather", "_law_row"]) (sc := defScope s_law_graph) (by decide +kernel)) (fun _ _ _ _ _ => (dg_name (pg_name (i := 5) sc_law_graph.nd rfl (Or.inl rfl)))) (fun _ _ _ _ _ => dts_nil) (fun _ _ _ _ _ => (de_op op_addD (de_tup (da_cons (dv 5) da_nil)) (de_cal c_law_tick (hr.mono (by decide)) (by rfl) pass0 (da_cons (dv 0) (da_cons (dv 3) (da_cons (dv 5) da_nil))))))) (dv 1) (dv 3))
        (dss_one (ds_set (i := 2) sc_law_graph.nd rfl (.inl rfl) (de_op op_addD (dv 2) (de_lc (own := [("_law_row", 6)]) rfl sc_law_graph.nd (di_list (de_ix hu (dv 1) (dv 3) (fun _ _ => rfl))) (blkOk_by (own := [("_law_row", 6)]) (N := ["_law_house_here", "_law_found", "_law_line", "_law_stand", "_law_start", "_law_weather", "_law_row"]) (sc := defScope s_law_graph) (by decide +kernel)) (fun _ _ _ _ _ => (dg_name (pg_name (i := 6) sc_law_graph.nd rfl (Or.inl rfl)))) (fun _ _ _ _ _ => dts_nil) (fun _ _ _ _ _ => (de_ix hu (dv 6) de_int (fun _ _ => rfl)))))))) dss_nil))))
        (dss_one (ds_ret (dv 1))))), ?_⟩
  rintro ds M Q EX ⟨h, rfl, o, q⟩
  walk_at "st"
  intro f hf
  walk_at "st"
  refine ⟨h, rfl, o, fun a M1 ha le1 hM1 => ?_⟩
  have hf1 : M1 f = some (.dct newDict []) := le1 _ _ mset_same
  have haf : a ≠ f := mneN ha
  walk_at "st"
  refine lc_mapS (starts h) startDt (fun s => standD (begin0 s)) (srcL_ok hM1) (line3 (Nat.le_trans (starts_len o) (by decide))) (fun b acc s hb hs R hR => ?_) fun l hl => ?_
  · refine k_ask rfl ⟨by simp, ?_⟩
    walk_at "st"
    exact ⟨s, rfl, hR⟩
  walk_at "st"
  have hlf : l ≠ f := Ne.symm (mne hf1 hl)
  have leM : Le M M1 := (Le.new hf).tr le1
  have hlM : M l = none := leM.free hl
  have eqs : (starts h).map (fun s => standD (begin0 s)) = ((starts h).map begin0).map standD := by rw [List.map_map]; rfl
  refine ⟨fun m Γ M' => ∃ K S l, LInv h M f l K S M' ∧ m + 3 * K.length = 3 * 700 + S.length ∧ ∃ x3 x4 x5 x6, Γ = [some (houseD h), some (.obj f), some (.obj l), x3, x4, x5, x6], ?_, ?_⟩
  · refine ⟨3 * 700 + ((starts h).map begin0).length, [], (starts h).map begin0, l, ⟨leM.at hlM, hlM, hlf, ⟨_, [], (mset_ne (Ne.symm hlf)).trans hf1, rfl, fun _ z => nomatch z⟩, by rw [mset_same, eqs], List.nodup_nil, fun _ z => (nomatch z), fun x hx => ?_, ?_, fun t ht => .inr (List.mem_map.mpr ⟨t, ht, rfl⟩), fun _ z => (nomatch z)⟩, by simp, _, _, _, _, rfl⟩
    · obtain ⟨t, ht, rfl⟩ := List.mem_map.mp hx
      exact .start ht
    · rw [List.length_map]; have := starts_len o; simp; omega
  rintro m Γ M' ⟨K0, S, l, G, hm, x3, x4, x5, x6, rfl⟩
  walk_at "st"
  intro b hb
  have G := G.new (o := .lst []) hb
  have hbl := G.hl
  refine k_neNil (ds := S.map standD) hbl mset_same lay_stands ?_
  rw [map_ne]
  generalize mset M' b (.lst []) = M2 at G hbl ⊢
  rcases List.eq_nil_or_concat S with rfl | ⟨S1, s, rfl⟩
  · walk_at "st"
    obtain ⟨ob, kvs, hf', ek, hrow⟩ := G.hf
    refine fin.same (q f ob kvs M2 hf G.le hf' ⟨by rw [ek]; exact G.nd, fun s => ?_, fun p hp => let ⟨r, e1, _, e3⟩ := hrow p hp; ⟨r, e1, e3⟩⟩)
    rw [ek]
    refine ⟨G.rk s, fun r => r.ind (fun t ht => ?_) fun x hx w hw => ?_⟩
    · rcases G.st t ht with z | z
      · exact z
      · cases z
    · rcases G.nx x hx w hw with z | z
      · exact z
      · cases z
  · rw [List.concat_eq_append] at *
    have sr : Reach h s := G.rs s (by simp)
    have so := sr.ok o
    have hK := stands_len o G.nd fun x hx => (G.rk x hx).ok o
    have hS := G.len
    rw [List.length_append, List.length_singleton] at hS hm
    have hT : (!(S1 ++ [s]).isEmpty) = true := by cases S1 <;> rfl
    refine k_t hT ?_
    walk_at "st"
    refine k_rpop hbl (last_ix S1 s) ?_
    rw [drop_ix]
    walk_at "st"
    obtain ⟨ob, kvs, hf', ek, hrow⟩ := G.hf
    refine k_ninD ((mset_ne (Ne.symm G.lf)).trans hf') ?_
    rw [lk_isSome]
    walk_at "st"
    by_cases hs : s ∈ K0
    · rw [decide_eq_true (show s ∈ kvs.map (·.1) by rw [← ek] at hs; exact hs)]
      walk_at "st"
      refine ⟨m - 1, by omega, K0, S1, l, ⟨G.le.at G.l0, G.l0, G.lf, ⟨ob, kvs, (mset_ne (Ne.symm G.lf)).trans hf', ek, fun p hp => let ⟨r, e1, e2, e3⟩ := hrow p hp; ⟨r, e1, e2, (mset_ne e2).trans e3⟩⟩, mset_same, G.nd, G.rk, fun x hx => G.rs x (List.mem_append_left _ hx), by omega, fun t ht => ?_, fun x hx w hw => ?_⟩, by omega, _, _, _, _, rfl⟩
      · rcases G.st t ht with z | z
        · exact .inl z
        · rcases List.mem_append.mp z with z | z
          · exact .inr z
          · exact .inl (by rw [List.mem_singleton.mp z]; exact hs)
      · rcases G.nx x hx w hw with z | z
        · exact .inl z
        · rcases List.mem_append.mp z with z | z
          · exact .inr z
          · exact .inl (by rw [List.mem_singleton.mp z]; exact hs)
    · have hsk : s ∉ keysOf kvs := by rw [ek]; exact hs
      rw [decide_eq_false (show s ∉ kvs.map (·.1) from hsk)]
      walk_at "st"
      have hl3 : mset M2 l (.lst (S1.map standD)) l = some (.lst (S1.map standD)) := mset_same
      have hf3 : mset M2 l (.lst (S1.map standD)) f = some (.dct ob kvs) := (mset_ne (Ne.symm G.lf)).trans hf'
      have le3 : Le M (mset M2 l (.lst (S1.map standD))) := G.le.at G.l0
      have hrow3 : ∀ p ∈ kvs, ∃ r, p.2 = .obj r ∧ r ≠ l ∧ mset M2 l (.lst (S1.map standD)) r = some (.lst (h.ws.map (rowD h p.1))) := fun p hp => let ⟨r, e1, e2, e3⟩ := hrow p hp; ⟨r, e1, e2, (mset_ne e2).trans e3⟩
      generalize mset M2 l (.lst (S1.map standD)) = M3 at hl3 hf3 le3 hrow3 ⊢
      refine lc_mapS h.ws (fun w => .str w.s) (rowD h s) srcC_ok (line3 (Nat.le_trans (ws_len o) (by decide))) (fun b acc w hb hw R hR => ?_) fun r hr => ?_
      · refine k_ask rfl ⟨by simp, ?_⟩
        walk_at "st"
        refine ⟨h, s, w, rfl, o, so, ?_⟩
        walk_at "st"
        exact hR
      have hrf : r ≠ f := Ne.symm (mne hf3 hr)
      have hrl : r ≠ l := Ne.symm (mne hl3 hr)
      walk_at "st"
      refine k_rset (kvs := kvs) ((mset_ne (Ne.symm hrf)).trans hf3) (lk_none hsk) (line3 ?_) fun ob' => ?_
      · have : kvs.length = K0.length := by rw [← ek]; unfold keysOf; rw [List.length_map]
        omega
      walk_at "st"
      refine k_dix mset_same (lk_snoc hsk) ?_
      walk_at "st"
      refine lc_mapS h.ws (rowD h s) (fun w => standD (tickS h s w)) (srcL_ok ((mset_ne hrf).trans mset_same)) (line3 (Nat.le_trans (ws_len o) (by decide))) (fun b acc w hb hw R hR => ?_) fun t ht => ?_
      · refine k_ask rfl ⟨by simp, ?_⟩
        unfold rowD
        walk_at "st"
        exact hR
      have htf : t ≠ f := mneN ht
      have htr : t ≠ r := mneN (mnone ht)
      have ht' : M3 t = none := mnone (mnone ht)
      have htl : t ≠ l := Ne.symm (mne hl3 ht')
      have hnl := nexts_len o s
      refine k_addl (ds := S1.map standD) (es := h.ws.map fun w => standD (tickS h s w)) ((mset_ne (Ne.symm htl)).trans ((mset_ne G.lf).trans ((mset_ne (Ne.symm hrl)).trans hl3))) mset_same (sl_b ?_) fun c hc => ?_
      · unfold nexts at hnl
        rw [List.length_map] at hnl
        rw [List.length_map, List.length_map]
        omega
      have eqn : S1.map standD ++ h.ws.map (fun w => standD (tickS h s w)) = (S1 ++ nexts h s).map standD := by
        rw [List.map_append]
        unfold nexts
        rw [List.map_map]
        rfl
      rw [eqn]
      have hcf : c ≠ f := Ne.symm (mne ((mset_ne (Ne.symm htf)).trans mset_same) hc)
      have hct : c ≠ t := mneN hc
      have hc3 : M3 c = none := mnone (mnone (mnone hc))
      have hcr : c ≠ r := mneN (mnone (mnone hc))
      have leC : Le M (mset (mset (mset M3 r (.lst (h.ws.map (rowD h s)))) f (.dct ob' (kvs ++ [(s, .obj r)]))) t (.lst (h.ws.map fun w => standD (tickS h s w)))) := ((le3.at (le3.free hr)).at hf).at (le3.free ht')
      refine ⟨m - 4 + (nexts h s).length, by omega, K0 ++ [s], S1 ++ nexts h s, c, ⟨leC.at (le3.free hc3), le3.free hc3, hcf, ⟨ob', kvs ++ [(s, .obj r)], ?_, ?_, fun p hp => ?_⟩, mset_same, ?_, ?_, ?_, ?_, fun t' ht' => ?_, fun x hx w hw => ?_⟩, ?_, _, _, _, _, rfl⟩
      · exact (mset_ne (Ne.symm hcf)).trans ((mset_ne (Ne.symm htf)).trans mset_same)
      · rw [keys_snoc, ek]
      · obtain hp | hp := List.mem_append.mp hp
        · obtain ⟨r', e1, e2, e3⟩ := hrow3 p hp
          have n1 : r' ≠ f := fun e => by rw [e, hf3] at e3; cases e3
          exact ⟨r', e1, mne e3 hc3, (mset_ne (mne e3 hc3)).trans ((mset_ne (mne e3 ht')).trans ((mset_ne n1).trans ((mset_ne (mne e3 hr)).trans e3)))⟩
        · rw [(List.mem_singleton.mp hp)]
          exact ⟨r, rfl, Ne.symm hcr, (mset_ne (Ne.symm hcr)).trans ((mset_ne (Ne.symm htr)).trans ((mset_ne hrf).trans mset_same))⟩
      · exact List.nodup_append.mpr ⟨G.nd, by simp, fun a ha b hb => by rw [List.mem_singleton.mp hb]; exact fun e => hs (by rw [← show a = s from e]; exact ha)⟩
      · intro x hx
        obtain hx | hx := List.mem_append.mp hx
        · exact G.rk x hx
        · rw [List.mem_singleton.mp hx]; exact sr
      · intro x hx
        obtain hx | hx := List.mem_append.mp hx
        · exact G.rs x (List.mem_append_left _ hx)
        · obtain ⟨w, hw, rfl⟩ := List.mem_map.mp hx
          exact sr.next hw
      · rw [List.length_append, List.length_append, List.length_singleton]; omega
      · rcases G.st t' ht' with z | z
        · exact .inl (List.mem_append_left _ z)
        · rcases List.mem_append.mp z with z | z
          · exact .inr (List.mem_append_left _ z)
          · exact .inl (List.mem_append_right _ z)
      · obtain hx | hx := List.mem_append.mp hx
        · rcases G.nx x hx w hw with z | z
          · exact .inl (List.mem_append_left _ z)
          · rcases List.mem_append.mp z with z | z
            · exact .inr (List.mem_append_left _ z)
            · exact .inl (List.mem_append_right _ z)
        · rw [List.mem_singleton.mp hx]
          exact .inr (List.mem_append_right _ (List.mem_map.mpr ⟨w, hw, rfl⟩))
      · rw [List.length_append, List.length_append, List.length_singleton]
        omega
end
end L3

/-! The law's own: what is behind a stand; who sets. -/
namespace L3
open PySem PySem.Spec PyProof.Rows L2
local macro_rules | `(tactic| walk_at "mem") => `(tactic| first | assumption | exact mset_same | (refine (mset_ne ?_).trans ?_ <;> first | assumption | exact Ne.symm (by assumption) | exact mset_same | (refine (mset_ne ?_).trans ?_ <;> first | assumption | exact Ne.symm (by assumption) | exact mset_same)))
local macro_rules | `(tactic| walk_at "line") => `(tactic| first | decide | (simp only [List.length_cons, List.length_nil, List.length_map, List.length_append]; first | decide | omega) | (refine sl_b ?_; simp only [List.length_cons, List.length_nil, List.length_map, List.length_append]; first | decide | omega))
local macro_rules | `(tactic| walk_at "s1") => `(tactic| first
  | ((with_reducible refine' k_var ?g0 ?_); (case g0 => exact rfl))
  | ((with_reducible refine' k_seqN ?g0 ?_); (case g0 => (try simp only [startD, g_cons, g_nil, List.map_cons, List.map_nil, List.length_cons, List.length_nil, Nat.reduceAdd, Nat.reduceSub, List.replicate_succ, List.replicate_zero, List.cons_append, List.nil_append, List.set_cons_zero, List.set_cons_succ, List.zip_cons_cons, List.zip_nil_right, List.zip_nil_left]); try exact rfl))
  | ((with_reducible refine' k_retN ?g0 ?_); (case g0 => (try simp only [startD, g_cons, g_nil, List.map_cons, List.map_nil, List.length_cons, List.length_nil, Nat.reduceAdd, Nat.reduceSub, List.replicate_succ, List.replicate_zero, List.cons_append, List.nil_append, List.set_cons_zero, List.set_cons_succ, List.zip_cons_cons, List.zip_nil_right, List.zip_nil_left]); try exact rfl))
  | (with_reducible refine k_nedev ?_)
  | (with_reducible refine k_ifS ?_)
  | (with_reducible refine k_next ?_)
  | (with_reducible refine k_drop ?_)
  | (with_reducible refine k_set ?_)
  | (with_reducible refine k_asg ?_)
  | (with_reducible refine k_sub ?_)
  | (with_reducible refine k_par ?_)
  | (with_reducible refine k_asP ?_)
  | (with_reducible refine k_par3 ?_)
  | (with_reducible refine k_asP3 ?_)
  | (with_reducible refine k_aug ?_)
  | (with_reducible refine k_for ?_)
  | (with_reducible refine k_B ?_)
  | (with_reducible refine k_asB ?_)
  | (with_reducible refine k_and ?_)
  | (with_reducible refine k_or ?_)
  | (with_reducible refine k_not ?_)
  | (with_reducible refine k_andV ?_)
  | (with_reducible refine k_orV ?_)
  | (with_reducible refine k_notV ?_)
  | (with_reducible refine k_chain ?_)
  | (with_reducible refine k_yes ?_)
  | (with_reducible refine k_if ?_)
  | (with_reducible refine k_c ?_)
  | (with_reducible refine k_op ?_)
  | (with_reducible refine k_nil ?_)
  | (with_reducible refine k_cons ?_)
  | (with_reducible refine k_tup ?_)
  | (with_reducible refine k_lst ?_)
  | (with_reducible refine k_call ?_)
  | (with_reducible refine k_fn ?_)
  | (with_reducible refine k_sl ?_)
  | (with_reducible refine k_app ?_)
  | (with_reducible refine k_pop ?_)
  | (with_reducible refine k_it ?_)
  | (with_reducible refine k_ik ?_)
  | (with_reducible refine k_il ?_)
  | (with_reducible refine k_ir ?_)
  | (with_reducible refine k_lc ?_)
  | (with_reducible refine k_addi ?_)
  | (with_reducible refine k_iaddi ?_)
  | (with_reducible refine k_eqi ?_)
  | (with_reducible refine k_nei ?_)
  | (with_reducible refine k_eqs ?_)
  | (with_reducible refine k_nes ?_)
  | (with_reducible refine k_eqb ?_)
  | (with_reducible refine k_neb ?_)
  | (with_reducible refine k_eqst ?_)
  | (with_reducible refine k_isN ?_)
  | (with_reducible refine k_notN ?_)
  | (with_reducible refine k_rsls ?_)
  | (with_reducible refine k_rsl ?_)
  | (with_reducible refine k_lent ?_)
  | (with_reducible refine k_i2 ?_)
  | (with_reducible refine k_toi ?_)
  | (with_reducible refine k_tob ?_)
  | (with_reducible refine k_itw ?_)
  | (with_reducible refine k_itt ?_)
  | (with_reducible refine k_lc2 ?_)
  | (with_reducible refine k_get ?_)
  | (with_reducible refine k_dc ?_)
  | ((with_reducible refine' k_ask ?g0 ?_); (case g0 => exact rfl))
  | ((with_reducible refine' k_ix ?g0 ?_); (case g0 => exact rfl))
  | ((with_reducible refine' k_lix ?g0 ?g1 ?_); (case g0 => walk_at "mem"); (case g1 => exact rfl))
  | ((with_reducible refine' k_int ?g0 ?_); (case g0 => first | exact trivial | exact cm2 | (show (0 : Int) < _; omega) | (show CMul _ _; exact .inl ⟨by omega, by omega⟩) | (show CMul _ _; exact .inr ⟨by omega, by omega⟩) | (show CDiv _ _; exact ⟨by omega, by omega⟩) | exact ⟨by decide, by decide⟩))
  | ((with_reducible refine' k_addt ?g0 ?_); (case g0 => walk_at "line"))
  | ((with_reducible refine' sl_s ?g0 ?_); (case g0 => walk_at "line"))
  | ((with_reducible refine' k_inT ?g0 ?g1 ?_); (case g0 => exact rfl); (case g1 => exact rfl))
  | ((with_reducible refine' k_ninT ?g0 ?g1 ?_); (case g0 => exact rfl); (case g1 => exact rfl))
  | ((with_reducible refine' k_inL ?g0 ?g1 ?g2 ?_); (case g0 => walk_at "mem"); (case g1 => exact rfl); (case g2 => exact rfl))
  | ((with_reducible refine' k_ninL ?g0 ?g1 ?g2 ?_); (case g0 => walk_at "mem"); (case g1 => exact rfl); (case g2 => exact rfl))
  | ((with_reducible refine' k_lenl ?g0 ?_); (case g0 => walk_at "mem"))
  | ((with_reducible refine' k_ninD ?g0 ?_); (case g0 => walk_at "mem"))
  | ((with_reducible refine' k_inD ?g0 ?_); (case g0 => walk_at "mem"))
  | ((with_reducible refine' k_rik ?g0 ?_); (case g0 => walk_at "mem"))
  | ((with_reducible refine' k_ril ?g0 ?_); (case g0 => walk_at "mem"))
  | ((with_reducible refine' k_isi ?g0 ?g1 ?_); (case g0 => exact rfl); (case g1 => exact rfl))
  | ((with_reducible refine' k_isl ?g0 ?_); (case g0 => walk_at "mem"))
  | ((with_reducible refine' k_rget ?g0 ?_); (case g0 => walk_at "mem"))
  | ((with_reducible refine' k_dix ?g0 ?g1 ?_); (case g0 => walk_at "mem"); (case g1 => assumption))
  | ((with_reducible refine' k_iaddl ?g0 ?g1 ?g2 ?_); (case g0 => walk_at "mem"); (case g1 => walk_at "mem"); (case g2 => walk_at "line"))
  | ((with_reducible refine' k_addl ?g0 ?g1 ?g2 ?_); (case g0 => walk_at "mem"); (case g1 => walk_at "mem"); (case g2 => walk_at "line"))
  | ((with_reducible refine' k_rall ?g0 ?g1 ?_); (case g0 => walk_at "mem"); (case g1 => exact rfl))
  | ((with_reducible refine' k_tot ?g0 ?_); (case g0 => walk_at "mem"))
  | ((with_reducible refine' k_t ?g0 ?_); (case g0 => exact rfl))
  | ((with_reducible refine' k_f ?g0 ?_); (case g0 => exact rfl)))
local macro_rules | `(tactic| walk_at "st") => `(tactic| (repeat (walk_at "s1")); try dsimp only)
local macro_rules | `(tactic| walk_at "c") => `(tactic| try simp only [inV_two, d_no, d_on, d_off, d_open, d_shut, d_no', d_on', d_off', d_open', d_shut', w_cold, w_cold', v_heat, reduceCtorEq, decide_true, decide_false, Bool.or_false, Bool.false_or, Bool.or_true, Bool.true_or, Bool.not_true, Bool.not_false, Bool.false_eq_true, Bool.true_eq_false, if_true, if_false, reduceIte])
local macro_rules | `(tactic| walk_at "len") => `(tactic| (intro ds M Q EX h; repeat (obtain ⟨x, h⟩ := h; try (subst x; exact rfl))))
structure AInv (h : House) (s0 : Stand) (M0 : Mm) (f l : Addr) (K S : List Stand) (M' : Mm) : Prop where
  le : Le M0 M'
  hf : ∃ o, M' f = some (.dct o (K.map fun x => (x, .bl true)))
  hl : M' l = some (.lst (S.map standD))
  nd : K.Nodup
  rk : ∀ x ∈ K, RP h s0 x
  rs : ∀ x ∈ S, x = s0 ∨ x ∈ K
  len : S.length ≤ 1 + K.length
theorem keysT (K : List Stand) : (K.map fun x => (x, D.bl true)).map (·.1) = K := by
  rw [List.map_map]
  exact List.map_id K
section
variable {P : Program} {w : World} {K : PySem.W.Frag} {mg : Str → Option Value} {base : Heap}
abbrev s_law_after : Stmt := topS 86
theorem sc_law_after : FnScope ["_law_graph_here", "_law_stand", "_law_found", "_law_line", "_law_row"] ["_law_graph_here", "_law_stand"] (defScope s_law_after) := ⟨rfl, rfl, rfl, by decide +kernel, rfl, by decide +kernel, by decide +kernel⟩
def sp_law_after : DSp := fun ds M Q _ => ∃ h g o kvs s0, ds = [.obj g, standD s0] ∧ h.Ok ∧ M g = some (.dct o kvs) ∧ Graph h M kvs ∧ Reach h s0 ∧
  ∀ f o' kv M', M f = none → Le M M' → M' f = some (.dct o' kv) → kv.length ≤ 648 → (∀ s, s ∈ keysOf kv ↔ RP h s0 s) → Q (.obj f) M'
theorem ok_law_after {f : Addr} {fd : FuncData} (F : Fun K "_law_after" "_law_after" s_law_after f fd) : DFn P w K mg base CX0 1 f fd ["_law_graph_here", "_law_stand"] sp_law_after := by
  refine dfn_ok F sc_law_after (by walk_at "len") fun cdv A outer s H E hr => ?_
  have hu := hr.units
  refine ⟨_, (dss_cons (ds_par (i := 2) (j := 3) (ps_par (by rfl) sc_law_after.nd rfl rfl (by decide) rfl rfl (da_cons de_new (da_cons (de_lst (da_cons (dv 1) da_nil)) da_nil)) (by rfl)))
        (dss_cons (ds_while PassesOwn.never (dt_cmp (op_neDD hu) (dv 3) (de_lst da_nil) (nomark _)) (dss_one (ds_for PassesOwn.never rfl (di_list (de_ix hu (dv 0) (de_pop (dv 3)) (fun _ _ => rfl))) (dg_name (pg_name (i := 4) sc_law_after.nd rfl (Or.inl rfl))) (dss_one (ds_if (dt_cmp (op_ninDD hu) (de_ix hu (dv 4) de_int (fun _ _ => rfl)) (dv 2) (by rfl)) (dss_cons (ds_sub hu de_bl (dv 2) (de_ix hu (dv 4) de_int (fun _ _ => rfl)))
        (dss_one (ds_expr (de_append (dv 3) (de_ix hu (dv 4) de_int (fun _ _ => rfl)))))) dss_nil)))))
        (dss_one (ds_ret (dv 2))))), ?_⟩
  rintro ds M Q EX ⟨h, g, og, kvs, s0, rfl, o, hg, G, r0, q⟩
  have so := r0.ok o
  walk_at "st"
  intro f hf
  walk_at "st"
  intro l hl
  walk_at "st"
  have hlf : l ≠ f := mneN hl
  have hlM : M l = none := mnone hl
  refine ⟨fun m Γ M' => ∃ K S, AInv h s0 M f l K S M' ∧ (∀ x, (x = s0 ∨ x ∈ K) → x ∈ S ∨ ∀ w ∈ h.ws, tickS h x w ∈ K) ∧ m + 2 * K.length = 2000 + S.length ∧ ∃ x4, Γ = [some (.obj g), some (standD s0), some (.obj f), some (.obj l), x4], ?_, ?_⟩
  · refine ⟨2001, [], [s0], ⟨(Le.rfl'.at hf).at hlM, ⟨_, (mset_ne (Ne.symm hlf)).trans mset_same⟩, mset_same, List.nodup_nil, fun _ z => (nomatch z), fun x hx => .inl (List.mem_singleton.mp hx), by simp⟩, fun x hx => ?_, by simp, _, rfl⟩
    rcases hx with rfl | hx
    · exact .inl (by simp)
    · cases hx
  rintro m Γ M' ⟨K0, S, R, nx, hm, x4, rfl⟩
  walk_at "st"
  intro b hb
  have hl1 := R.hl
  have hl2 : mset M' b (.lst []) l = some (.lst (S.map standD)) := (mset_ne (mne hl1 hb)).trans hl1
  refine k_neNil (ds := S.map standD) hl2 mset_same lay_stands ?_
  rw [map_ne]
  have R : AInv h s0 M f l K0 S (mset M' b (.lst [])) := by
    obtain ⟨ob, e1⟩ := R.hf
    exact ⟨R.le.at (R.le.free hb), ⟨ob, (mset_ne (mne e1 hb)).trans e1⟩, hl2, R.nd, R.rk, R.rs, R.len⟩
  generalize mset M' b (.lst []) = M2 at R hl2 ⊢
  have hK := stands_len o R.nd fun x hx => (r0.to (R.rk x hx).rt).ok o
  rcases List.eq_nil_or_concat S with rfl | ⟨S1, s, rfl⟩
  · walk_at "st"
    obtain ⟨ob, hf'⟩ := R.hf
    refine fin.same (q f ob _ M2 hf R.le hf' (by rw [List.length_map]; exact hK) fun s => ?_)
    unfold keysOf
    rw [keysT]
    refine ⟨R.rk s, fun r => ?_⟩
    have cl : ∀ x, (x = s0 ∨ x ∈ K0) → ∀ w ∈ h.ws, tickS h x w ∈ K0 := fun x hx => by
      rcases nx x hx with z | z
      · cases z
      · exact z
    exact r.ind (fun w hw => cl s0 (.inl rfl) w hw) fun x hx w hw => cl x (.inr hx) w hw
  · rw [List.concat_eq_append] at *
    have hS := R.len
    rw [List.length_append, List.length_singleton] at hS hm
    have hT : (!(S1 ++ [s]).isEmpty) = true := by cases S1 <;> rfl
    have rs0 : RT h s0 s := by
      rcases R.rs s (by simp) with rfl | z
      · exact .refl
      · exact (R.rk s z).rt
    have sr : Reach h s := r0.to rs0
    refine k_t hT ?_
    walk_at "st"
    refine k_rpop hl2 (last_ix S1 s) ?_
    rw [drop_ix]
    obtain ⟨ob, hf'⟩ := R.hf
    have le3 : Le M (mset M2 l (.lst (S1.map standD))) := R.le.at hlM
    have R3 : AInv h s0 M f l K0 S1 (mset M2 l (.lst (S1.map standD))) := ⟨le3, ⟨ob, (mset_ne (Ne.symm hlf)).trans hf'⟩, mset_same, R.nd, R.rk, fun x hx => R.rs x (List.mem_append_left _ hx), by omega⟩
    generalize mset M2 l (.lst (S1.map standD)) = M3 at le3 R3 ⊢
    have hg3 := le3 _ _ hg
    obtain ⟨rr, eg, hrr⟩ := (G.le le3).at sr
    refine k_dix hg3 eg ?_
    walk_at "st"
    refine ⟨h.ws.map (rowD h s), fun i Γ' M2 => ∃ K' S' Z, AInv h s0 M f l K' S' M2 ∧ K' = K0 ++ Z ∧ S' = S1 ++ Z ∧ (∀ w ∈ h.ws.take i, tickS h s w ∈ K') ∧ ∃ x4, Γ' = [some (.obj g), some (standD s0), some (.obj f), some (.obj l), x4], fun i Γ' M2 ⟨K', S', Z, R', _⟩ => ?_, ⟨K0, S1, [], R3, by simp, by simp, fun w z => by simp at z, _, rfl⟩, fun i d Γ' M2 hi ⟨K', S', Z, R', eK, eS, ht, x4, eΓ⟩ => ?_, fun Γ' M2 ⟨K', S', Z, R', eK, eS, ht, x4, eΓ⟩ => ?_⟩
    · show M2 rr = _
      obtain ⟨r2, eg2, hrr2⟩ := (G.le R'.le).at sr
      rw [eg] at eg2
      cases eg2
      exact hrr2
    · subst eΓ
      rw [List.getElem?_map] at hi
      obtain ⟨w, hw, rfl⟩ := Option.map_eq_some_iff.mp hi
      have hwm := List.mem_of_getElem? hw
      obtain ⟨ob2, hf2⟩ := R'.hf
      have hl3 := R'.hl
      have hK' := stands_len o R'.nd fun x hx => (r0.to (R'.rk x hx).rt).ok o
      have hS' := R'.len
      have tk : ∀ x ∈ h.ws.take (i + 1), x ∈ h.ws.take i ∨ x = w := fun x hx => by
        rw [List.take_add_one, hw] at hx
        simpa using hx
      refine k_ask rfl ?_
      unfold rowD
      walk_at "st"
      rw [lk_isSome, keysT]
      by_cases ht2 : tickS h s w ∈ K'
      · rw [decide_eq_true ht2]
        walk_at "st"
        refine ⟨K', S', Z, R', eK, eS, fun x hx => ?_, _, rfl⟩
        rcases tk x hx with hx | rfl
        · exact ht x hx
        · exact ht2
      · rw [decide_eq_false ht2]
        walk_at "st"
        refine k_rset hf2 (lk_none (by rw [keysT]; exact ht2)) (line3 (by rw [List.length_map]; omega)) fun ob' => ?_
        walk_at "st"
        refine k_rapp ((mset_ne hlf).trans hl3) (line3 (by rw [List.length_map]; omega)) ?_
        walk_at "st"
        refine ⟨K' ++ [tickS h s w], S' ++ [tickS h s w], Z ++ [tickS h s w], ⟨(R'.le.at hf).at hlM, ⟨ob', (mset_ne (Ne.symm hlf)).trans (mset_same.trans ?_)⟩, mset_same.trans ?_, ?_, fun x hx => ?_, fun x hx => ?_, ?_⟩, by rw [eK, List.append_assoc], by rw [eS, List.append_assoc], fun x hx => ?_, _, rfl⟩
        · rw [List.map_append]
          rfl
        · rw [List.map_append]
          rfl
        · exact List.nodup_append.mpr ⟨R'.nd, by simp, fun a ha b hb => by rw [List.mem_singleton.mp hb]; exact fun e => ht2 (by rw [← show a = tickS h s w from e]; exact ha)⟩
        · obtain hx | hx := List.mem_append.mp hx
          · exact R'.rk x hx
          · rw [List.mem_singleton.mp hx]
            obtain ⟨r, hr⟩ := rs0
            exact ⟨r ++ [w], by simp, hr.snoc hwm⟩
        · obtain hx | hx := List.mem_append.mp hx
          · rcases R'.rs x hx with z | z
            · exact .inl z
            · exact .inr (List.mem_append_left _ z)
          · exact .inr (List.mem_append_right _ hx)
        · rw [List.length_append, List.length_append, List.length_singleton]; omega
        · rcases tk x hx with hx | rfl
          · exact List.mem_append_left _ (ht x hx)
          · exact List.mem_append_right _ (List.mem_singleton.mpr rfl)
    · subst eΓ
      rw [List.length_map, List.take_length] at ht
      have eL : K'.length = K0.length + Z.length := by rw [eK, List.length_append]
      have eL2 : S'.length = S1.length + Z.length := by rw [eS, List.length_append]
      have hK' := stands_len o R'.nd fun x hx => (r0.to (R'.rk x hx).rt).ok o
      refine ⟨m - 1 - Z.length, by omega, K', S', R', fun x hx => ?_, by omega, _, rfl⟩
      by_cases hz : x ∈ Z
      · exact .inl (by rw [eS]; exact List.mem_append_right _ hz)
      · have hx0 : x = s0 ∨ x ∈ K0 := by
          rcases hx with hx | hx
          · exact .inl hx
          · rw [eK] at hx
            obtain hx | hx := List.mem_append.mp hx
            · exact .inr hx
            · exact absurd hx hz
        rcases nx x hx0 with z | z
        · rcases List.mem_append.mp z with z | z
          · exact .inl (by rw [eS]; exact List.mem_append_left _ z)
          · rw [(List.mem_singleton.mp z)]
            exact .inr ht
        · exact .inr fun w hw => by rw [eK]; exact List.mem_append_left _ (z w hw)
end
end L3

/-! The law's own: who sets, what is fought. -/
namespace L3
open PySem PySem.Spec PyProof.Rows L2
local macro_rules | `(tactic| walk_at "mem") => `(tactic| first | assumption | exact mset_same | (refine (mset_ne ?_).trans ?_ <;> first | assumption | exact Ne.symm (by assumption) | exact mset_same | (refine (mset_ne ?_).trans ?_ <;> first | assumption | exact Ne.symm (by assumption) | exact mset_same)))
local macro_rules | `(tactic| walk_at "line") => `(tactic| first | decide | (simp only [List.length_cons, List.length_nil, List.length_map, List.length_append]; first | decide | omega) | (refine sl_b ?_; simp only [List.length_cons, List.length_nil, List.length_map, List.length_append]; first | decide | omega))
local macro_rules | `(tactic| walk_at "s1") => `(tactic| first
  | ((with_reducible refine' k_var ?g0 ?_); (case g0 => exact rfl))
  | ((with_reducible refine' k_seqN ?g0 ?_); (case g0 => (try simp only [startD, g_cons, g_nil, List.map_cons, List.map_nil, List.length_cons, List.length_nil, Nat.reduceAdd, Nat.reduceSub, List.replicate_succ, List.replicate_zero, List.cons_append, List.nil_append, List.set_cons_zero, List.set_cons_succ, List.zip_cons_cons, List.zip_nil_right, List.zip_nil_left]); try exact rfl))
  | ((with_reducible refine' k_retN ?g0 ?_); (case g0 => (try simp only [startD, g_cons, g_nil, List.map_cons, List.map_nil, List.length_cons, List.length_nil, Nat.reduceAdd, Nat.reduceSub, List.replicate_succ, List.replicate_zero, List.cons_append, List.nil_append, List.set_cons_zero, List.set_cons_succ, List.zip_cons_cons, List.zip_nil_right, List.zip_nil_left]); try exact rfl))
  | (with_reducible refine k_nedev ?_)
  | (with_reducible refine k_ifS ?_)
  | (with_reducible refine k_next ?_)
  | (with_reducible refine k_drop ?_)
  | (with_reducible refine k_set ?_)
  | (with_reducible refine k_asg ?_)
  | (with_reducible refine k_sub ?_)
  | (with_reducible refine k_par ?_)
  | (with_reducible refine k_asP ?_)
  | (with_reducible refine k_par3 ?_)
  | (with_reducible refine k_asP3 ?_)
  | (with_reducible refine k_aug ?_)
  | (with_reducible refine k_for ?_)
  | (with_reducible refine k_B ?_)
  | (with_reducible refine k_asB ?_)
  | (with_reducible refine k_and ?_)
  | (with_reducible refine k_or ?_)
  | (with_reducible refine k_not ?_)
  | (with_reducible refine k_andV ?_)
  | (with_reducible refine k_orV ?_)
  | (with_reducible refine k_notV ?_)
  | (with_reducible refine k_chain ?_)
  | (with_reducible refine k_yes ?_)
  | (with_reducible refine k_if ?_)
  | (with_reducible refine k_c ?_)
  | (with_reducible refine k_op ?_)
  | (with_reducible refine k_nil ?_)
  | (with_reducible refine k_cons ?_)
  | (with_reducible refine k_tup ?_)
  | (with_reducible refine k_lst ?_)
  | (with_reducible refine k_call ?_)
  | (with_reducible refine k_fn ?_)
  | (with_reducible refine k_sl ?_)
  | (with_reducible refine k_app ?_)
  | (with_reducible refine k_pop ?_)
  | (with_reducible refine k_it ?_)
  | (with_reducible refine k_ik ?_)
  | (with_reducible refine k_il ?_)
  | (with_reducible refine k_ir ?_)
  | (with_reducible refine k_lc ?_)
  | (with_reducible refine k_addi ?_)
  | (with_reducible refine k_iaddi ?_)
  | (with_reducible refine k_eqi ?_)
  | (with_reducible refine k_nei ?_)
  | (with_reducible refine k_eqs ?_)
  | (with_reducible refine k_nes ?_)
  | (with_reducible refine k_eqb ?_)
  | (with_reducible refine k_neb ?_)
  | (with_reducible refine k_eqst ?_)
  | (with_reducible refine k_isN ?_)
  | (with_reducible refine k_notN ?_)
  | (with_reducible refine k_rsls ?_)
  | (with_reducible refine k_rsl ?_)
  | (with_reducible refine k_lent ?_)
  | (with_reducible refine k_i2 ?_)
  | (with_reducible refine k_toi ?_)
  | (with_reducible refine k_tob ?_)
  | (with_reducible refine k_itw ?_)
  | (with_reducible refine k_itt ?_)
  | (with_reducible refine k_lc2 ?_)
  | (with_reducible refine k_get ?_)
  | (with_reducible refine k_dc ?_)
  | ((with_reducible refine' k_ask ?g0 ?_); (case g0 => exact rfl))
  | ((with_reducible refine' k_ix ?g0 ?_); (case g0 => exact rfl))
  | ((with_reducible refine' k_lix ?g0 ?g1 ?_); (case g0 => walk_at "mem"); (case g1 => exact rfl))
  | ((with_reducible refine' k_int ?g0 ?_); (case g0 => first | exact trivial | exact cm2 | (show (0 : Int) < _; omega) | (show CMul _ _; exact .inl ⟨by omega, by omega⟩) | (show CMul _ _; exact .inr ⟨by omega, by omega⟩) | (show CDiv _ _; exact ⟨by omega, by omega⟩) | exact ⟨by decide, by decide⟩))
  | ((with_reducible refine' k_addt ?g0 ?_); (case g0 => walk_at "line"))
  | ((with_reducible refine' sl_s ?g0 ?_); (case g0 => walk_at "line"))
  | ((with_reducible refine' k_inT ?g0 ?g1 ?_); (case g0 => exact rfl); (case g1 => exact rfl))
  | ((with_reducible refine' k_ninT ?g0 ?g1 ?_); (case g0 => exact rfl); (case g1 => exact rfl))
  | ((with_reducible refine' k_inL ?g0 ?g1 ?g2 ?_); (case g0 => walk_at "mem"); (case g1 => exact rfl); (case g2 => exact rfl))
  | ((with_reducible refine' k_ninL ?g0 ?g1 ?g2 ?_); (case g0 => walk_at "mem"); (case g1 => exact rfl); (case g2 => exact rfl))
  | ((with_reducible refine' k_lenl ?g0 ?_); (case g0 => walk_at "mem"))
  | ((with_reducible refine' k_ninD ?g0 ?_); (case g0 => walk_at "mem"))
  | ((with_reducible refine' k_inD ?g0 ?_); (case g0 => walk_at "mem"))
  | ((with_reducible refine' k_rik ?g0 ?_); (case g0 => walk_at "mem"))
  | ((with_reducible refine' k_ril ?g0 ?_); (case g0 => walk_at "mem"))
  | ((with_reducible refine' k_isi ?g0 ?g1 ?_); (case g0 => exact rfl); (case g1 => exact rfl))
  | ((with_reducible refine' k_isl ?g0 ?_); (case g0 => walk_at "mem"))
  | ((with_reducible refine' k_rget ?g0 ?_); (case g0 => walk_at "mem"))
  | ((with_reducible refine' k_dix ?g0 ?g1 ?_); (case g0 => walk_at "mem"); (case g1 => assumption))
  | ((with_reducible refine' k_iaddl ?g0 ?g1 ?g2 ?_); (case g0 => walk_at "mem"); (case g1 => walk_at "mem"); (case g2 => walk_at "line"))
  | ((with_reducible refine' k_addl ?g0 ?g1 ?g2 ?_); (case g0 => walk_at "mem"); (case g1 => walk_at "mem"); (case g2 => walk_at "line"))
  | ((with_reducible refine' k_rall ?g0 ?g1 ?_); (case g0 => walk_at "mem"); (case g1 => exact rfl))
  | ((with_reducible refine' k_tot ?g0 ?_); (case g0 => walk_at "mem"))
  | ((with_reducible refine' k_t ?g0 ?_); (case g0 => exact rfl))
  | ((with_reducible refine' k_f ?g0 ?_); (case g0 => exact rfl)))
local macro_rules | `(tactic| walk_at "st") => `(tactic| (repeat (walk_at "s1")); try dsimp only)
local macro_rules | `(tactic| walk_at "c") => `(tactic| try simp only [inV_two, d_no, d_on, d_off, d_open, d_shut, d_no', d_on', d_off', d_open', d_shut', w_cold, w_cold', v_heat, reduceCtorEq, decide_true, decide_false, Bool.or_false, Bool.false_or, Bool.or_true, Bool.true_or, Bool.not_true, Bool.not_false, Bool.false_eq_true, Bool.true_eq_false, if_true, if_false, reduceIte])
local macro_rules | `(tactic| walk_at "len") => `(tactic| (intro ds M Q EX h; repeat (obtain ⟨x, h⟩ := h; try (subst x; exact rfl))))
theorem k_andB {ta tb : DTE} {Γ : Ge} {M : Mm} {Q : QD} {b1 b2 : Bool} (hx : ∀ R : QD, R (.bl b1) M → ta Γ M R) (hy : ∀ R : QD, R (.bl b2) M → tb Γ M R) (q : Q (.bl (b1 && b2)) M) : dAndV ta tb Γ M Q := by
  refine k_andV (hx _ (k_asB ?_))
  cases b1 with
  | true => exact k_t rfl (hy _ (by simpa using q))
  | false => exact k_f rfl (by simpa using q)
theorem k_orB {ta tb : DTE} {Γ : Ge} {M : Mm} {Q : QD} {b1 b2 : Bool} (hx : ∀ R : QD, R (.bl b1) M → ta Γ M R) (hy : ∀ R : QD, R (.bl b2) M → tb Γ M R) (q : Q (.bl (b1 || b2)) M) : dOrV ta tb Γ M Q := by
  refine k_orV (hx _ (k_asB ?_))
  cases b1 with
  | true => exact k_t rfl (by simpa using q)
  | false => exact k_f rfl (hy _ (by simpa using q))
def prD (p : Stand × Stand) : D := .tup [standD p.1, standD p.2]
def setL (h : House) (who : Bool) (dev : Dev) (ks : List Stand) : List (Stand × Stand) := ks.flatMap fun s => if sets h s who dev = true then h.ws.map fun w => (s, tickS h s w) else []
theorem setL_snoc (h : House) (who : Bool) (dev : Dev) (ks : List Stand) (s : Stand) : setL h who dev (ks ++ [s]) = setL h who dev ks ++ if sets h s who dev = true then h.ws.map fun w => (s, tickS h s w) else [] := by
  unfold setL
  rw [List.flatMap_append]
  simp
theorem setL_len {h : House} (o : h.Ok) (who : Bool) (dev : Dev) (ks : List Stand) : (setL h who dev ks).length ≤ 2 * ks.length := by
  induction ks with
  | nil => simp [setL]
  | cons s ks ih =>
    have := ws_len o
    unfold setL at ih ⊢
    rw [List.flatMap_cons, List.length_append, List.length_cons]
    split
    · rw [List.length_map]; omega
    · simp only [List.length_nil]; omega
theorem mem_setL {h : House} {who : Bool} {dev : Dev} {ks : List Stand} {p : Stand × Stand} : p ∈ setL h who dev ks ↔ ∃ s w, s ∈ ks ∧ w ∈ h.ws ∧ sets h s who dev = true ∧ p = (s, tickS h s w) := by
  unfold setL
  rw [List.mem_flatMap]
  constructor
  · rintro ⟨s, hs, hp⟩
    split at hp
    · rename_i c
      obtain ⟨w, hw, rfl⟩ := List.mem_map.mp hp
      exact ⟨s, w, hs, hw, c, rfl⟩
    · cases hp
  · rintro ⟨s, w, hs, hw, c, rfl⟩
    exact ⟨s, hs, by rw [if_pos c]; exact List.mem_map.mpr ⟨w, hw, rfl⟩⟩
def wordsD : Dev → List D
  | .heater => [.str "off", .str "on"]
  | .window => [.str "open", .str "shut"]
def wordsV : Dev → List V
  | .heater => [.str "off", .str "on"]
  | .window => [.str "open", .str "shut"]
theorem words_V (dev : Dev) : toVs (wordsD dev) = some (wordsV dev) := by cases dev <;> rfl
theorem in_words (dev : Dev) (d : Deed) : inV (.str d.s) (wordsV dev) = setsB dev d := by
  cases dev <;> (simp only [wordsV, inV_two]; cases d <;> decide +kernel)
section
variable {P : Program} {w : World} {K : PySem.W.Frag} {mg : Str → Option Value} {base : Heap}
abbrev s_law_setters : Stmt := topS 87
theorem sc_law_setters : FnScope ["_law_graph_here", "_law_who", "_law_device", "_law_words_so", "_law_found", "_law_stand", "_law_row"] ["_law_graph_here", "_law_who", "_law_device"] (defScope s_law_setters) := ⟨rfl, rfl, rfl, by decide +kernel, rfl, by decide +kernel, by decide +kernel⟩
def sp_law_setters : DSp := fun ds M Q _ => ∃ h g o kvs who dev, ds = [.obj g, .int (whoI who), .str (Dev.s dev)] ∧ h.Ok ∧ M g = some (.dct o kvs) ∧ Graph h M kvs ∧
  ∀ f M', M f = none → Le M M' → M' f = some (.lst ((setL h who dev (keysOf kvs)).map prD)) → Q (.obj f) M'
theorem ok_law_setters {f : Addr} {fd : FuncData} (F : Fun K "_law_setters" "_law_setters" s_law_setters f fd) : DFn P w K mg base CX0 1 f fd ["_law_graph_here", "_law_who", "_law_device"] sp_law_setters := by
  refine dfn_ok F sc_law_setters (by walk_at "len") fun cdv A outer s H E hr => ?_
  have hu := hr.units
  refine ⟨_, (dss_cons (ds_set (i := 3) sc_law_setters.nd rfl (.inr rfl) (de_if (dt_cmp (op_eqDD hu) (dv 2) de_str (nomark _)) (de_lst (da_cons de_str (da_cons de_str da_nil))) (de_lst (da_cons de_str (da_cons de_str da_nil)))))
        (dss_cons (ds_set (i := 4) sc_law_setters.nd rfl (.inl rfl) (de_lst da_nil))
        (dss_cons (ds_for PassesOwn.never rfl (di_keys (dv 0)) (dg_name (pg_name (i := 5) sc_law_setters.nd rfl (Or.inr rfl))) (dss_one (ds_set (i := 4) sc_law_setters.nd rfl (.inl rfl) (de_op op_addD (dv 4) (de_lc (own := [("_law_row", 6)]) rfl sc_law_setters.nd (di_list (de_ix hu (dv 0) (dv 5) (fun _ _ => rfl))) (blkOk_by (own := [("_law_row", 6)]) (N := ["_law_graph_here", "_law_who", "_law_device", "_law_words_so", "_law_found", "_law_stand", "_law_row"]) (sc := defScope s_law_setters) (by decide +kernel)) (fun _ _ _ _ _ => (dg_name (pg_name (i := 6) sc_law_setters.nd rfl (Or.inl rfl)))) (fun _ _ _ _ _ => (dts_one (dt_cmp (op_inDD hu) (de_ix hu (de_ix hu (dv 6) de_int (fun _ _ => rfl)) (dv 1) (fun _ _ => rfl)) (dv 3) (by rfl)))) (fun _ _ _ _ _ => (de_tup (da_cons (dv 5) (da_cons (de_ix hu (dv 6) de_int (fun _ _ => rfl)) da_nil)))))))))
        (dss_one (ds_ret (dv 4)))))), ?_⟩
  rintro ds M Q EX ⟨h, g, og, kvs, who, dev, rfl, o, hg, G, q⟩
  have hln := G.len o
  walk_at "st"
  walk_at "c"
  have words : ∀ R : QD, (∀ p, M p = none → R (.obj p) (mset M p (.lst (wordsD dev)))) → (if decide (dev = .heater) = true then dLst (dCons (dC (.str "off")) (dCons (dC (.str "on")) dNil)) [some (.obj g), some (.int (whoI who)), some (.str dev.s), none, none, none, none] M R
      else dLst (dCons (dC (.str "open")) (dCons (dC (.str "shut")) dNil)) [some (.obj g), some (.int (whoI who)), some (.str dev.s), none, none, none, none] M R) := fun R hR => by
    cases dev
    · refine k_t (by decide) ?_
      walk_at "st"
      exact hR
    · refine k_f (by decide) ?_
      walk_at "st"
      exact hR
  refine words _ fun p hp => ?_
  walk_at "st"
  intro a ha
  have hap : a ≠ p := mneN ha
  have hpM : M p = none := hp
  have haM : M a = none := mnone ha
  walk_at "st"
  refine k_rik ((mset_ne (mne hg haM)).trans ((mset_ne (mne hg hp)).trans hg)) ?_
  refine ⟨kvs.map fun p => standD p.1, fun i Γ' M' => ∃ c, M c = none ∧ Le M M' ∧ c ≠ p ∧ M' p = some (.lst (wordsD dev)) ∧ M' c = some (.lst ((setL h who dev ((keysOf kvs).take i)).map prD)) ∧ ∃ x5 x6, Γ' = [some (.obj g), some (.int (whoI who)), some (.str dev.s), some (.obj p), some (.obj c), x5, x6],
    fun i Γ' M' ⟨c, _, le, _⟩ => ⟨kvs, le _ _ hg, rfl⟩, ⟨a, haM, (Le.rfl'.at hp).at haM, hap, (mset_ne (Ne.symm hap)).trans mset_same, mset_same.trans (by simp [setL]), _, _, rfl⟩, fun i d Γ' M' hi ⟨c, hc, le, hcp, hp', hc', x5, x6, eΓ⟩ => ?_, fun Γ' M' ⟨c, hc, le, hcp, hp', hc', x5, x6, eΓ⟩ => ?_⟩
  · subst eΓ
    rw [List.getElem?_map] at hi
    obtain ⟨⟨s, du⟩, hu1, rfl⟩ := Option.map_eq_some_iff.mp hi
    have rs : Reach h s := (G.mem s).mp (List.mem_map.mpr ⟨_, List.mem_of_getElem? hu1, rfl⟩)
    have hil := (List.getElem?_eq_some_iff.mp hu1).1
    have hku : (keysOf kvs)[i]? = some s := by unfold keysOf; rw [List.getElem?_map, hu1]; rfl
    obtain ⟨rr, lu, mr⟩ := (G.le le).at rs
    have hg' := le _ _ hg
    refine k_ask rfl ?_
    walk_at "st"
    refine lc_map h.ws (rowD h s) (fun w => if sets h s who dev = true then some (prD (s, tickS h s w)) else none) (srcL_ok mr) (line3 (Nat.le_trans (ws_len o) (by decide))) (fun b acc w hb hw R hR => ?_) fun b hb => ?_
    · refine k_ask rfl ⟨by simp, ?_⟩
      unfold rowD pairD
      have hpb : p ≠ b := mne hp' hb
      have hmem : mset M' b (.lst acc) p = some (.lst (wordsD dev)) := (mset_ne hpb).trans hp'
      have wv := words_V dev
      unfold sets at hR
      cases who
      · walk_at "st"
        refine k_inL hmem rfl wv ?_
        rw [in_words]
        walk_at "st"
        cases hsd : setsB dev (deed0 h s)
        · rw [show (bif false then deed1 h s else deed0 h s) = deed0 h s from rfl, hsd] at hR
          exact hR
        · rw [show (bif false then deed1 h s else deed0 h s) = deed0 h s from rfl, hsd] at hR
          walk_at "st"
          exact hR
      · walk_at "st"
        refine k_inL hmem rfl wv ?_
        rw [in_words]
        walk_at "st"
        cases hsd : setsB dev (deed1 h s)
        · rw [show (bif true then deed1 h s else deed0 h s) = deed1 h s from rfl, hsd] at hR
          exact hR
        · rw [show (bif true then deed1 h s else deed0 h s) = deed1 h s from rfl, hsd] at hR
          walk_at "st"
          exact hR
    · have e : h.ws.filterMap (fun w => if sets h s who dev = true then some (prD (s, tickS h s w)) else none) = (if sets h s who dev = true then h.ws.map fun w => (s, tickS h s w) else []).map prD := by
        cases sets h s who dev
        · simp
        · simp [List.map_map, Function.comp_def]
      rw [e]
      have hsl := setL_len o who dev ((keysOf kvs).take i)
      have hwl := ws_len o
      have htl : ((keysOf kvs).take i).length ≤ i := by rw [List.length_take]; omega
      refine k_addl ((mset_ne (mne hc' hb)).trans hc') mset_same (sl_b ?_) fun c2 hc2 => ?_
      · rw [List.length_map, List.length_map]
        split
        · rw [List.length_map]; omega
        · simp only [List.length_nil]; omega
      have hb' : M b = none := le.free hb
      have hc2' : M c2 = none := le.free (mnone hc2)
      have hc2p : c2 ≠ p := Ne.symm (mne hp' (mnone hc2))
      refine ⟨c2, hc2', (le.at hb').at hc2', hc2p, (mset_ne (Ne.symm hc2p)).trans ((mset_ne (mne hp' hb)).trans hp'), mset_same.trans ?_, _, _, rfl⟩
      rw [List.take_add_one, hku, Option.toList_some, setL_snoc, List.map_append]
  · subst eΓ
    rw [List.length_map, List.take_of_length_le (by unfold keysOf; rw [List.length_map]; exact Nat.le_refl _)] at hc'
    walk_at "st"
    exact fin.same (q c M' hc le hc')
end
end L3

/-! The law's own: what is fought. -/
namespace L3
open PySem PySem.Spec PyProof.Rows L2
local macro_rules | `(tactic| walk_at "mem") => `(tactic| first | assumption | exact mset_same | (refine (mset_ne ?_).trans ?_ <;> first | assumption | exact Ne.symm (by assumption) | exact mset_same | (refine (mset_ne ?_).trans ?_ <;> first | assumption | exact Ne.symm (by assumption) | exact mset_same)))
local macro_rules | `(tactic| walk_at "line") => `(tactic| first | decide | (simp only [List.length_cons, List.length_nil, List.length_map, List.length_append]; first | decide | omega) | (refine sl_b ?_; simp only [List.length_cons, List.length_nil, List.length_map, List.length_append]; first | decide | omega))
local macro_rules | `(tactic| walk_at "s1") => `(tactic| first
  | ((with_reducible refine' k_var ?g0 ?_); (case g0 => exact rfl))
  | ((with_reducible refine' k_seqN ?g0 ?_); (case g0 => (try simp only [startD, g_cons, g_nil, List.map_cons, List.map_nil, List.length_cons, List.length_nil, Nat.reduceAdd, Nat.reduceSub, List.replicate_succ, List.replicate_zero, List.cons_append, List.nil_append, List.set_cons_zero, List.set_cons_succ, List.zip_cons_cons, List.zip_nil_right, List.zip_nil_left]); try exact rfl))
  | ((with_reducible refine' k_retN ?g0 ?_); (case g0 => (try simp only [startD, g_cons, g_nil, List.map_cons, List.map_nil, List.length_cons, List.length_nil, Nat.reduceAdd, Nat.reduceSub, List.replicate_succ, List.replicate_zero, List.cons_append, List.nil_append, List.set_cons_zero, List.set_cons_succ, List.zip_cons_cons, List.zip_nil_right, List.zip_nil_left]); try exact rfl))
  | (with_reducible refine k_nedev ?_)
  | (with_reducible refine k_ifS ?_)
  | (with_reducible refine k_next ?_)
  | (with_reducible refine k_drop ?_)
  | (with_reducible refine k_set ?_)
  | (with_reducible refine k_asg ?_)
  | (with_reducible refine k_sub ?_)
  | (with_reducible refine k_par ?_)
  | (with_reducible refine k_asP ?_)
  | (with_reducible refine k_par3 ?_)
  | (with_reducible refine k_asP3 ?_)
  | (with_reducible refine k_aug ?_)
  | (with_reducible refine k_for ?_)
  | (with_reducible refine k_B ?_)
  | (with_reducible refine k_asB ?_)
  | (with_reducible refine k_and ?_)
  | (with_reducible refine k_or ?_)
  | (with_reducible refine k_not ?_)
  | (with_reducible refine k_andV ?_)
  | (with_reducible refine k_orV ?_)
  | (with_reducible refine k_notV ?_)
  | (with_reducible refine k_chain ?_)
  | (with_reducible refine k_yes ?_)
  | (with_reducible refine k_if ?_)
  | (with_reducible refine k_c ?_)
  | (with_reducible refine k_op ?_)
  | (with_reducible refine k_nil ?_)
  | (with_reducible refine k_cons ?_)
  | (with_reducible refine k_tup ?_)
  | (with_reducible refine k_lst ?_)
  | (with_reducible refine k_call ?_)
  | (with_reducible refine k_fn ?_)
  | (with_reducible refine k_sl ?_)
  | (with_reducible refine k_app ?_)
  | (with_reducible refine k_pop ?_)
  | (with_reducible refine k_it ?_)
  | (with_reducible refine k_ik ?_)
  | (with_reducible refine k_il ?_)
  | (with_reducible refine k_ir ?_)
  | (with_reducible refine k_lc ?_)
  | (with_reducible refine k_addi ?_)
  | (with_reducible refine k_iaddi ?_)
  | (with_reducible refine k_eqi ?_)
  | (with_reducible refine k_nei ?_)
  | (with_reducible refine k_eqs ?_)
  | (with_reducible refine k_nes ?_)
  | (with_reducible refine k_eqb ?_)
  | (with_reducible refine k_neb ?_)
  | (with_reducible refine k_eqst ?_)
  | (with_reducible refine k_isN ?_)
  | (with_reducible refine k_notN ?_)
  | (with_reducible refine k_rsls ?_)
  | (with_reducible refine k_rsl ?_)
  | (with_reducible refine k_lent ?_)
  | (with_reducible refine k_i2 ?_)
  | (with_reducible refine k_toi ?_)
  | (with_reducible refine k_tob ?_)
  | (with_reducible refine k_itw ?_)
  | (with_reducible refine k_itt ?_)
  | (with_reducible refine k_lc2 ?_)
  | (with_reducible refine k_get ?_)
  | (with_reducible refine k_dc ?_)
  | ((with_reducible refine' k_ask ?g0 ?_); (case g0 => exact rfl))
  | ((with_reducible refine' k_ix ?g0 ?_); (case g0 => exact rfl))
  | ((with_reducible refine' k_lix ?g0 ?g1 ?_); (case g0 => walk_at "mem"); (case g1 => exact rfl))
  | ((with_reducible refine' k_int ?g0 ?_); (case g0 => first | exact trivial | exact cm2 | (show (0 : Int) < _; omega) | (show CMul _ _; exact .inl ⟨by omega, by omega⟩) | (show CMul _ _; exact .inr ⟨by omega, by omega⟩) | (show CDiv _ _; exact ⟨by omega, by omega⟩) | exact ⟨by decide, by decide⟩))
  | ((with_reducible refine' k_addt ?g0 ?_); (case g0 => walk_at "line"))
  | ((with_reducible refine' sl_s ?g0 ?_); (case g0 => walk_at "line"))
  | ((with_reducible refine' k_inT ?g0 ?g1 ?_); (case g0 => exact rfl); (case g1 => exact rfl))
  | ((with_reducible refine' k_ninT ?g0 ?g1 ?_); (case g0 => exact rfl); (case g1 => exact rfl))
  | ((with_reducible refine' k_inL ?g0 ?g1 ?g2 ?_); (case g0 => walk_at "mem"); (case g1 => exact rfl); (case g2 => exact rfl))
  | ((with_reducible refine' k_ninL ?g0 ?g1 ?g2 ?_); (case g0 => walk_at "mem"); (case g1 => exact rfl); (case g2 => exact rfl))
  | ((with_reducible refine' k_lenl ?g0 ?_); (case g0 => walk_at "mem"))
  | ((with_reducible refine' k_ninD ?g0 ?_); (case g0 => walk_at "mem"))
  | ((with_reducible refine' k_inD ?g0 ?_); (case g0 => walk_at "mem"))
  | ((with_reducible refine' k_rik ?g0 ?_); (case g0 => walk_at "mem"))
  | ((with_reducible refine' k_ril ?g0 ?_); (case g0 => walk_at "mem"))
  | ((with_reducible refine' k_isi ?g0 ?g1 ?_); (case g0 => exact rfl); (case g1 => exact rfl))
  | ((with_reducible refine' k_isl ?g0 ?_); (case g0 => walk_at "mem"))
  | ((with_reducible refine' k_rget ?g0 ?_); (case g0 => walk_at "mem"))
  | ((with_reducible refine' k_dix ?g0 ?g1 ?_); (case g0 => walk_at "mem"); (case g1 => assumption))
  | ((with_reducible refine' k_iaddl ?g0 ?g1 ?g2 ?_); (case g0 => walk_at "mem"); (case g1 => walk_at "mem"); (case g2 => walk_at "line"))
  | ((with_reducible refine' k_addl ?g0 ?g1 ?g2 ?_); (case g0 => walk_at "mem"); (case g1 => walk_at "mem"); (case g2 => walk_at "line"))
  | ((with_reducible refine' k_rall ?g0 ?g1 ?_); (case g0 => walk_at "mem"); (case g1 => exact rfl))
  | ((with_reducible refine' k_tot ?g0 ?_); (case g0 => walk_at "mem"))
  | ((with_reducible refine' k_t ?g0 ?_); (case g0 => exact rfl))
  | ((with_reducible refine' k_f ?g0 ?_); (case g0 => exact rfl)))
local macro_rules | `(tactic| walk_at "st") => `(tactic| (repeat (walk_at "s1")); try dsimp only)
local macro_rules | `(tactic| walk_at "c") => `(tactic| try simp only [inV_two, d_no, d_on, d_off, d_open, d_shut, d_no', d_on', d_off', d_open', d_shut', w_cold, w_cold', v_heat, reduceCtorEq, decide_true, decide_false, Bool.or_false, Bool.false_or, Bool.or_true, Bool.true_or, Bool.not_true, Bool.not_false, Bool.false_eq_true, Bool.true_eq_false, if_true, if_false, reduceIte])
local macro_rules | `(tactic| walk_at "len") => `(tactic| (intro ds M Q EX h; repeat (obtain ⟨x, h⟩ := h; try (subst x; exact rfl))))
/-- by stands, the dicts of what is behind them -/
structure Rb (h : House) (M : Mm) (kvs : List (Stand × D)) : Prop where
  mem : ∀ s, Reach h s → s ∈ keysOf kvs
  way : ∀ p ∈ kvs, ∃ a ob kv, p.2 = .obj a ∧ M a = some (.dct ob kv) ∧ ∀ s, s ∈ keysOf kv ↔ RP h p.1 s
theorem Rb.at {h : House} {M : Mm} {kvs : List (Stand × D)} (g : Rb h M kvs) {s : Stand} (k : Reach h s) : ∃ a ob kv, lk kvs s = some (.obj a) ∧ M a = some (.dct ob kv) ∧ ∀ t, (lk kv t).isSome = true ↔ RP h s t := by
  obtain ⟨d, e, m⟩ := lk_key (g.mem s k)
  obtain ⟨a, ob, kv, e1, q, r⟩ := g.way _ m
  have e1 : d = .obj a := e1
  subst e1
  exact ⟨a, ob, kv, e, q, fun t => by rw [lk_isSome, decide_eq_true_eq]; exact r t⟩
theorem Rb.le {h : House} {M M' : Mm} {kvs : List (Stand × D)} (g : Rb h M kvs) (l : Le M M') : Rb h M' kvs := ⟨g.mem, fun p m => let ⟨a, ob, kv, e, q, r⟩ := g.way p m; ⟨a, ob, kv, e, l _ _ q, r⟩⟩
theorem rt_bool {h : House} {s t : Stand} {kv : List (Stand × D)} (c : ∀ t, (lk kv t).isSome = true ↔ RP h s t) : (decide (s = t) || (lk kv t).isSome) = true ↔ RT h s t := by
  rw [Bool.or_eq_true, decide_eq_true_eq, c]
  exact ⟨fun z => z.elim (fun e => e ▸ .refl) RP.rt, RT.or⟩
structure WInv2 (h : House) (M : Mm) (f : Addr) (kvs : List (Stand × D)) (i : Nat) (M' : Mm) : Prop where
  le : Le M M'
  dc : ∃ ob kvw, M' f = some (.dct ob kvw) ∧ keysOf kvw = (keysOf kvs).take i ∧ ∀ p ∈ kvw, ∃ a ob kv, p.2 = .obj a ∧ a ≠ f ∧ M' a = some (.dct ob kv) ∧ ∀ s, s ∈ keysOf kv ↔ RP h p.1 s
section
variable {P : Program} {w : World} {K : PySem.W.Frag} {mg : Str → Option Value} {base : Heap}
abbrev s_law_fought : Stmt := topS 88
theorem sc_law_fought : FnScope ["_law_graph_here", "_law_device", "_law_reach", "_law_stand", "_law_first", "_law_second", "_law_other", "_law_last", "_law_same_here", "_law_there", "_law_back", "_law_both", "_law_row"] ["_law_graph_here", "_law_device"] (defScope s_law_fought) := ⟨rfl, rfl, rfl, by decide +kernel, rfl, by decide +kernel, by decide +kernel⟩
def sp_law_fought : DSp := fun ds M Q _ => ∃ h g o kvs dev, ds = [.obj g, .str (Dev.s dev)] ∧ h.Ok ∧ M g = some (.dct o kvs) ∧ Graph h M kvs ∧ ∀ b : Bool, (b = true ↔ Fight h dev) → Q (.bl b) M
theorem ok_law_fought {f : Addr} {fd : FuncData} (c_law_setters : Cal P w K mg base CX0 "_law_setters" 1 ["_law_graph_here", "_law_who", "_law_device"] sp_law_setters) (c_law_after : Cal P w K mg base CX0 "_law_after" 1 ["_law_graph_here", "_law_stand"] sp_law_after) (F : Fun K "_law_fought" "_law_fought" s_law_fought f fd) : DFn P w K mg base CX0 2 f fd ["_law_graph_here", "_law_device"] sp_law_fought := by
  refine dfn_ok F sc_law_fought (by walk_at "len") fun cdv A outer s H E hr => ?_
  have hu := hr.units
  refine ⟨_, (dss_cons (ds_set (i := 2) sc_law_fought.nd rfl (.inl rfl) de_new)
        (dss_cons (ds_for PassesOwn.never rfl (di_keys (dv 0)) (dg_name (pg_name (i := 3) sc_law_fought.nd rfl (Or.inl rfl))) (dss_one (ds_sub hu (de_cal c_law_after (hr.mono (by decide)) (by rfl) pass0 (da_cons (dv 0) (da_cons (dv 3) da_nil))) (dv 2) (dv 3))))
        (dss_cons (ds_for PassesOwn.never rfl (di_list (de_cal c_law_setters (hr.mono (by decide)) (by rfl) pass0 (da_cons (dv 0) (da_cons de_int (da_cons (dv 1) da_nil))))) (dg_tup (is := [4, 5]) (pg_tup rfl (pgs_cons (pg_name (i := 4) sc_law_fought.nd rfl (Or.inl rfl)) (pgs_cons (pg_name (i := 5) sc_law_fought.nd rfl (Or.inr rfl)) pgs_nil))) rfl) (dss_one (ds_for PassesOwn.never rfl (di_list (de_cal c_law_setters (hr.mono (by decide)) (by rfl) pass0 (da_cons (dv 0) (da_cons de_int (da_cons (dv 1) da_nil))))) (dg_tup (is := [6, 7]) (pg_tup rfl (pgs_cons (pg_name (i := 6) sc_law_fought.nd rfl (Or.inl rfl)) (pgs_cons (pg_name (i := 7) sc_law_fought.nd rfl (Or.inl rfl)) pgs_nil))) rfl) (dss_cons (ds_set (i := 8) sc_law_fought.nd rfl (.inl rfl) (de_and (de_cmp (op_eqDD hu) (dv 4) (dv 6) (nomark _)) (de_and (de_cmp (op_eqDD hu) (dv 5) (dv 7) (nomark _)) (de_one (de_or (de_cmp (op_eqDD hu) (dv 5) (dv 4) (nomark _)) (de_one (de_cmp (op_inDD hu) (dv 4) (de_ix hu (dv 2) (dv 5) (fun _ _ => rfl)) (by rfl))))))))
        (dss_cons (ds_set (i := 9) sc_law_fought.nd rfl (.inl rfl) (de_or (de_cmp (op_eqDD hu) (dv 5) (dv 6) (nomark _)) (de_one (de_cmp (op_inDD hu) (dv 6) (de_ix hu (dv 2) (dv 5) (fun _ _ => rfl)) (by rfl)))))
        (dss_cons (ds_set (i := 10) sc_law_fought.nd rfl (.inl rfl) (de_or (de_cmp (op_eqDD hu) (dv 7) (dv 4) (nomark _)) (de_one (de_cmp (op_inDD hu) (dv 4) (de_ix hu (dv 2) (dv 7) (fun _ _ => rfl)) (by rfl)))))
        (dss_cons (ds_setLc (i := 11) (own := [("_law_row", 12)]) rfl sc_law_fought.nd rfl rfl (sw_true rfl rfl rfl (by decide +kernel)) (di_list (de_ix hu (dv 0) (dv 4) (fun _ _ => rfl))) (blkOk_by (own := [("_law_row", 12)]) (N := ["_law_graph_here", "_law_device", "_law_reach", "_law_stand", "_law_first", "_law_second", "_law_other", "_law_last", "_law_same_here", "_law_there", "_law_back", "_law_both", "_law_row"]) (sc := defScope s_law_fought) (by decide +kernel)) (fun _ _ _ _ _ => (dg_name (pg_name (i := 12) sc_law_fought.nd rfl (Or.inl rfl)))) (fun _ _ _ _ _ => (dts_one (PW.pt (dw_and (dt_cmp (op_eqDD hu) (de_ix hu (dv 12) de_int (fun _ _ => rfl)) (dv 5) (nomark _)) (dw_and1 (dt_cmp (op_ninDD hu) de_str (de_ix hu (dv 12) de_int (fun _ _ => rfl)) (by rfl))))))) (fun _ _ _ _ _ => (dv 12)))
        (dss_one (ds_if (PW.pt (dw_or (PW.pt (dw_and (dt_val (dv 9)) (dw_and1 (dt_val (dv 10))))) (dw_or1 (PW.pt (dw_and (dt_val (dv 8)) (dw_and1 (dt_cmp (op_neDD hu) (dv 11) (de_lst da_nil) (nomark _)))))))) (dss_one (ds_ret de_bl)) dss_nil)))))))))
        (dss_one (ds_ret de_bl))))), ?_⟩
  rintro ds M Q EX ⟨h, g, og, kvs, dev, rfl, o, hg, G, q⟩
  have hln := G.len o
  walk_at "st"
  intro f hf
  walk_at "st"
  have hfg : f ≠ g := Ne.symm (mne hg hf)
  refine k_rik ((mset_ne (Ne.symm hfg)).trans hg) ?_
  refine ⟨kvs.map fun p => standD p.1, fun i Γ' M' => WInv2 h M f kvs i M' ∧ ∃ x3, Γ' = [some (.obj g), some (.str dev.s), some (.obj f), x3, none, none, none, none, none, none, none, none, none], fun i Γ' M' ⟨W, _⟩ => ⟨kvs, W.le _ _ hg, rfl⟩,
    ⟨⟨Le.new hf, _, [], mset_same, by simp [keysOf], fun _ z => nomatch z⟩, _, rfl⟩, fun i d Γ' M2 hi ⟨W, x3, eΓ⟩ => ?_, fun Γ' M2 ⟨W, x3, eΓ⟩ => ?_⟩
  · subst eΓ
    rw [List.getElem?_map] at hi
    obtain ⟨⟨u, du⟩, hu1, rfl⟩ := Option.map_eq_some_iff.mp hi
    have mu : u ∈ keysOf kvs := List.mem_map.mpr ⟨_, List.mem_of_getElem? hu1, rfl⟩
    have ru : Reach h u := (G.mem u).mp mu
    have hku : (keysOf kvs)[i]? = some u := by unfold keysOf; rw [List.getElem?_map, hu1]; rfl
    refine k_ask rfl ?_
    walk_at "st"
    refine ⟨h, g, og, kvs, u, rfl, o, W.le _ _ hg, G.le W.le, ru, fun f2 o' kv M3 hf2 le3 hf3 _ R => ?_⟩
    obtain ⟨ob, kvw, e1, e2, e3⟩ := W.dc
    have hfw : f2 ≠ f := Ne.symm (mne e1 hf2)
    have hil : i < (keysOf kvs).length := (List.getElem?_eq_some_iff.mp hku).1
    have hkl : (keysOf kvs).length = kvs.length := by unfold keysOf; rw [List.length_map]
    walk_at "st"
    refine k_rset (kvs := kvw) (le3 _ _ e1) (lk_none ?_) (line3 ?_) fun ob' => ?_
    · show u ∉ keysOf kvw
      rw [e2]
      intro z
      obtain ⟨j, hj⟩ := List.mem_iff_getElem?.mp z
      have hj2 : j < i := by
        have := (List.getElem?_eq_some_iff.mp hj).1
        rw [List.length_take] at this
        omega
      rw [List.getElem?_take_of_lt hj2] at hj
      have nd := List.nodup_iff_pairwise_ne.mp G.nd
      rw [List.pairwise_iff_getElem] at nd
      obtain ⟨l1, q1⟩ := List.getElem?_eq_some_iff.mp hj
      obtain ⟨l2, q2⟩ := List.getElem?_eq_some_iff.mp hku
      exact nd j i l1 l2 hj2 (by rw [q1, q2])
    · have : (keysOf kvw).length ≤ i := by rw [e2, List.length_take]; omega
      unfold keysOf at this
      rw [List.length_map] at this
      omega
    · refine ⟨⟨(W.le.tr le3).at hf, ob', kvw ++ [(u, .obj f2)], mset_same, ?_, fun p hp => ?_⟩, _, rfl⟩
      · rw [keys_snoc, e2, List.take_add_one, hku]
        rfl
      · obtain hp | hp := List.mem_append.mp hp
        · obtain ⟨a, ob, kv, z1, z2, z3, z4⟩ := e3 p hp
          exact ⟨a, ob, kv, z1, z2, (mset_ne z2).trans (le3 _ _ z3), z4⟩
        · rw [(List.mem_singleton.mp hp)]
          exact ⟨f2, o', kv, rfl, hfw, (mset_ne hfw).trans hf3, R⟩
  subst eΓ
  obtain ⟨ow, kvw, hw2, e2, e3⟩ := W.dc
  have Wy : Rb h M2 kvw := by
    refine ⟨fun s k => ?_, fun p hp => let ⟨a, ob, kv, z1, _, z3, z4⟩ := e3 p hp; ⟨a, ob, kv, z1, z3, z4⟩⟩
    rw [e2, List.length_map, List.take_of_length_le (by unfold keysOf; rw [List.length_map]; exact Nat.le_refl _)]
    exact (G.mem s).mpr k
  have le := W.le
  clear e2 e3 W
  walk_at "st"
  refine ⟨h, g, og, kvs, false, dev, rfl, o, le _ _ hg, G.le le, fun c M3 hc le3 hc3 => ?_⟩
  refine k_ril hc3 ?_
  have memS : ∀ who p, p ∈ setL h who dev (keysOf kvs) ↔ ∃ s w, Reach h s ∧ w ∈ h.ws ∧ sets h s who dev = true ∧ p = (s, tickS h s w) := fun who p => by
    rw [mem_setL]
    exact ⟨fun ⟨s, w, a, b⟩ => ⟨s, w, (G.mem s).mp a, b⟩, fun ⟨s, w, a, b⟩ => ⟨s, w, (G.mem s).mpr a, b⟩⟩
  have sf := le.tr le3
  refine ⟨(setL h false dev (keysOf kvs)).map prD, fun i Γ' M' => Le M3 M' ∧ (∀ p ∈ (setL h false dev (keysOf kvs)).take i, ∀ p2 ∈ setL h true dev (keysOf kvs), ¬ (RT h p.2 p2.1 ∧ RT h p2.2 p.1)) ∧ ∃ x3 x4 x5 x6 x7 x8 x9 x10 x11 x12, Γ' = [some (.obj g), some (.str dev.s), some (.obj f), x3, x4, x5, x6, x7, x8, x9, x10, x11, x12],
    fun i Γ' M' ⟨l4, _⟩ => l4 _ _ hc3, ⟨Le.rfl', fun p z => by simp at z, _, _, _, _, _, _, _, _, _, _, rfl⟩, fun i d Γ' M4 hi ⟨l4, hno, x3, x4, x5, x6, x7, x8, x9, x10, x11, x12, eΓ⟩ => ?_, fun Γ' M4 ⟨l4, hno, x3, x4, x5, x6, x7, x8, x9, x10, x11, x12, eΓ⟩ => ?_⟩
  · subst eΓ
    rw [List.getElem?_map] at hi
    obtain ⟨⟨fi, se⟩, hp1, rfl⟩ := Option.map_eq_some_iff.mp hi
    obtain ⟨s, w, rs, wm, s0, ep⟩ := (memS false _).mp (List.mem_of_getElem? hp1)
    obtain ⟨ep1, ep2⟩ := Prod.mk.inj ep
    have ep1 := ep1.symm
    subst ep1
    subst ep2
    refine k_ask rfl ?_
    walk_at "st"
    refine ⟨h, g, og, kvs, true, dev, rfl, o, l4 _ _ (sf _ _ hg), G.le (sf.tr l4), fun c2 M5 hc2 le5 hc5 => ?_⟩
    refine k_ril hc5 ?_
    refine ⟨(setL h true dev (keysOf kvs)).map prD, fun j Γ' M' => Le M5 M' ∧ (∀ p2 ∈ (setL h true dev (keysOf kvs)).take j, ¬ (RT h (tickS h s w) p2.1 ∧ RT h p2.2 s)) ∧ ∃ x6 x7 x8 x9 x10 x11 x12, Γ' = [some (.obj g), some (.str dev.s), some (.obj f), x3, some (standD s), some (standD (tickS h s w)), x6, x7, x8, x9, x10, x11, x12],
      fun i Γ' M' ⟨l6, _⟩ => l6 _ _ hc5, ⟨Le.rfl', fun p z => by simp at z, _, _, _, _, _, _, _, rfl⟩, fun j d Γ' M6 hj ⟨l6, hno2, x6, x7, x8, x9, x10, x11, x12, eΓ⟩ => ?_, fun Γ' M6 ⟨l6, hno2, x6, x7, x8, x9, x10, x11, x12, eΓ⟩ => ?_⟩
    · subst eΓ
      rw [List.getElem?_map] at hj
      obtain ⟨⟨ot, la⟩, hp2, rfl⟩ := Option.map_eq_some_iff.mp hj
      obtain ⟨u, w2, ru, wm2, s1, ep⟩ := (memS true _).mp (List.mem_of_getElem? hp2)
      obtain ⟨ep1, ep2⟩ := Prod.mk.inj ep
      have ep1 := ep1.symm
      subst ep1
      subst ep2
      have l7 : Le M2 M6 := le3.tr (l4.tr (le5.tr l6))
      have hg6 : M6 g = _ := l7 _ _ (le _ _ hg)
      have hw6 : M6 f = _ := l7 _ _ hw2
      have Wy6 := Wy.le l7
      have rt1 : Reach h (tickS h s w) := rs.next wm
      obtain ⟨a1, o1, kv1, la1, ma1, ch1⟩ := Wy6.at rt1
      obtain ⟨a2, o2, kv2, la2, ma2, ch2⟩ := Wy6.at (ru.next wm2)
      refine k_ask rfl ?_
      dsimp only [setG, List.foldl, List.set]
      refine k_seq (k_set (k_andB (b1 := decide (s = u)) (b2 := decide (tickS h s w = tickS h u w2) && (decide (tickS h s w = s) || (lk kv1 s).isSome)) ?_ ?_ ?_))
      · intro R hR; walk_at "st"; exact hR
      · intro R hR
        refine k_andB (b1 := decide (tickS h s w = tickS h u w2)) (b2 := decide (tickS h s w = s) || (lk kv1 s).isSome) ?_ ?_ hR
        · intro R hR; walk_at "st"; exact hR
        · intro R hR
          refine k_orB (b1 := decide (tickS h s w = s)) (b2 := (lk kv1 s).isSome) ?_ ?_ hR
          · intro R hR; walk_at "st"; exact hR
          · intro R hR; walk_at "st"; exact hR
      dsimp only
      refine k_seq (k_set (k_orB (b1 := decide (tickS h s w = u)) (b2 := (lk kv1 u).isSome) ?_ ?_ ?_))
      · intro R hR; walk_at "st"; exact hR
      · intro R hR; walk_at "st"; exact hR
      dsimp only
      refine k_seq (k_set (k_orB (b1 := decide (tickS h u w2 = s)) (b2 := (lk kv2 s).isSome) ?_ ?_ ?_))
      · intro R hR; walk_at "st"; exact hR
      · intro R hR; walk_at "st"; exact hR
      have c1 : (decide (tickS h s w = u) || (lk kv1 u).isSome) = true ↔ RT h (tickS h s w) u := rt_bool ch1
      have c2 : (decide (tickS h u w2 = s) || (lk kv2 s).isSome) = true ↔ RT h (tickS h u w2) s := rt_bool ch2
      have c3 : (decide (tickS h s w = s) || (lk kv1 s).isSome) = true ↔ RT h (tickS h s w) s := rt_bool ch1
      generalize (decide (tickS h s w = u) || (lk kv1 u).isSome) = B1 at c1 ⊢
      generalize (decide (tickS h u w2 = s) || (lk kv2 s).isSome) = B2 at c2 ⊢
      generalize (decide (tickS h s w = s) || (lk kv1 s).isSome) = B3 at c3 ⊢
      have c4 : (decide (s = u) && (decide (tickS h s w = tickS h u w2) && B3)) = true → Fight h dev := fun z => by
        rw [Bool.and_eq_true, Bool.and_eq_true, decide_eq_true_eq, decide_eq_true_eq] at z
        obtain ⟨z1, z2, z3⟩ := z
        subst z1
        exact ⟨s, w, rs, wm, s0, s, w, wm, s1, c3.mp z3, c3.mp z3⟩
      generalize (decide (s = u) && (decide (tickS h s w = tickS h u w2) && B3)) = B4 at c4 ⊢
      obtain ⟨rr, eg, hrr⟩ := (G.le (le.tr l7)).at rs
      walk_at "st"
      have leM6 : Le M M6 := le.tr l7
      have next : ∀ (M' : Mm) (y12 : Option D) (y11 : Option D), Le M5 M' → ¬ (RT h (tickS h s w) u ∧ RT h (tickS h u w2) s) → Le M5 M' ∧ (∀ p2 ∈ (setL h true dev (keysOf kvs)).take (j + 1), ¬ (RT h (tickS h s w) p2.1 ∧ RT h p2.2 s)) ∧ ∃ x6 x7 x8 x9 x10 x11 x12, [some (.obj g), some (.str dev.s), some (.obj f), x3, some (standD s), some (standD (tickS h s w)), some (standD u), some (standD (tickS h u w2)), some (.bl B4), some (.bl B1), some (.bl B2), y11, y12] = [some (.obj g), some (.str dev.s), some (.obj f), x3, some (standD s), some (standD (tickS h s w)), x6, x7, x8, x9, x10, x11, x12] := fun M' y12 y11 l n => by
        refine ⟨l, fun p2 hp => ?_, _, _, _, _, _, _, _, rfl⟩
        rw [List.take_add_one, hp2] at hp
        obtain hp | hp := List.mem_append.mp hp
        · exact hno2 p2 hp
        · have : p2 = (u, tickS h u w2) := by simpa using hp
          rw [this]; exact n
      generalize hnb : (!(decide ((deed0 h s).s = Str.ofString "") || decide ((deed1 h s).s = Str.ofString ""))) = nb
      refine lc_map h.ws (rowD h s) (fun w' => if (decide (tickS h s w' = tickS h s w) && nb) = true then some (rowD h s w') else none) (srcL_ok hrr) (line3 (Nat.le_trans (ws_len o) (by decide))) (fun b acc w' hb hw R hR => ?_) fun b hb => ?_
      · refine k_ask rfl ⟨by simp, ?_⟩
        have rowd : rowD h s w' = .tup [.str w'.s, standD (tickS h s w'), pairD h s, standD (midS h s)] := rfl
        have pd : pairD h s = .tup [.str (deed0 h s).s, .str (deed1 h s).s] := rfl
        rw [rowd, pd] at *
        walk_at "st"
        by_cases ct : tickS h s w' = tickS h s w
        · rw [decide_eq_true ct, Bool.true_and] at hR
          rw [decide_eq_true ct]
          walk_at "st"
          rw [inV_two, hnb]
          cases nb
          · walk_at "st"
            exact hR
          · walk_at "st"
            exact hR
        · rw [decide_eq_false ct, Bool.false_and] at hR
          rw [decide_eq_false ct]
          walk_at "st"
          exact hR
      have layL : ∀ d ∈ h.ws.filterMap (fun w' => if (decide (tickS h s w' = tickS h s w) && nb) = true then some (rowD h s w') else none), Lay d := fun d hd => by
        obtain ⟨w', _, e⟩ := List.mem_filterMap.mp hd
        split at e
        · cases e; exact lay_row h s w'
        · cases e
      generalize h.ws.filterMap (fun w' => if (decide (tickS h s w' = tickS h s w) && nb) = true then some (rowD h s w') else none) = L at layL ⊢
      have l8 : Le M5 (mset M6 b (.lst L)) := l6.tr (Le.new hb)
      have leM8 : Le M (mset M6 b (.lst L)) := leM6.tr (Le.new hb)
      have hb8 : mset M6 b (.lst L) b = some (.lst L) := mset_same
      generalize mset M6 b (.lst L) = M8 at l8 leM8 hb8 ⊢
      walk_at "st"
      by_cases hB : RT h (tickS h s w) u ∧ RT h (tickS h u w2) s
      · rw [c1.mpr hB.1, c2.mpr hB.2]
        walk_at "st"
        exact ⟨M, leM8, q true ⟨fun _ => ⟨s, w, rs, wm, s0, u, w2, wm2, s1, hB.1, hB.2⟩, fun _ => rfl⟩⟩
      · have hB2 : (B1 && B2) = false := by
          cases z1 : B1
          · rfl
          · cases z2 : B2
            · rfl
            · exact absurd ⟨c1.mp z1, c2.mp z2⟩ hB
        have tail : ∀ {uA uB : DTT} {t1 t2 : DTS} {En : DEn} {Γ : Ge}, True := fun {_ _ _ _ _ _} => trivial
        cases B1 with
        | false =>
          walk_at "st"
          cases B4 with
          | false => walk_at "st"; exact next M8 _ _ l8 hB
          | true =>
            walk_at "st"
            intro e he
            refine k_neNil (ds := L) ((mset_ne (mne hb8 he)).trans hb8) mset_same layL ?_
            walk_at "st"
            cases L with
            | nil => walk_at "st"; exact next _ _ _ (l8.tr (Le.new he)) hB
            | cons x L => walk_at "st"; exact ⟨M, leM8.tr (Le.new he), q true ⟨fun _ => c4 rfl, fun _ => rfl⟩⟩
        | true =>
          have z2 : B2 = false := by simpa using hB2
          subst z2
          walk_at "st"
          cases B4 with
          | false => walk_at "st"; exact next M8 _ _ l8 hB
          | true =>
            walk_at "st"
            intro e he
            refine k_neNil (ds := L) ((mset_ne (mne hb8 he)).trans hb8) mset_same layL ?_
            walk_at "st"
            cases L with
            | nil => walk_at "st"; exact next _ _ _ (l8.tr (Le.new he)) hB
            | cons x L => walk_at "st"; exact ⟨M, leM8.tr (Le.new he), q true ⟨fun _ => c4 rfl, fun _ => rfl⟩⟩
    · subst eΓ
      rw [List.length_map, List.take_length] at hno2
      refine ⟨l4.tr (le5.tr l6), fun p hp => ?_, _, _, _, _, _, _, _, _, _, _, rfl⟩
      rw [List.take_add_one, hp1] at hp
      obtain hp | hp := List.mem_append.mp hp
      · exact hno p hp
      · have : p = (s, tickS h s w) := by simpa using hp
        rw [this]; exact hno2
  · subst eΓ
    rw [List.length_map, List.take_length] at hno
    walk_at "st"
    refine ⟨M, sf.tr l4, q false ⟨fun z => (nomatch z), fun ⟨s, w, rs, wm, s0, u, w2, wm2, s1, r1, r2⟩ => ?_⟩⟩
    exact absurd ⟨r1, r2⟩ (hno (s, tickS h s w) ((memS false _).mpr ⟨s, w, rs, wm, s0, rfl⟩) (u, tickS h u w2) ((memS true _).mpr ⟨u, w2, rs.to ((RT.one wm).tr r1), wm2, s1, rfl⟩))
end
end L3

/-! The law's own: a ring walked. -/
namespace L3
open PySem PySem.Spec PyProof.Rows L2
local macro_rules | `(tactic| walk_at "mem") => `(tactic| first | assumption | exact mset_same | (refine (mset_ne ?_).trans ?_ <;> first | assumption | exact Ne.symm (by assumption) | exact mset_same | (refine (mset_ne ?_).trans ?_ <;> first | assumption | exact Ne.symm (by assumption) | exact mset_same)))
local macro_rules | `(tactic| walk_at "line") => `(tactic| first | decide | (simp only [List.length_cons, List.length_nil, List.length_map, List.length_append]; first | decide | omega) | (refine sl_b ?_; simp only [List.length_cons, List.length_nil, List.length_map, List.length_append]; first | decide | omega))
local macro_rules | `(tactic| walk_at "s1") => `(tactic| first
  | ((with_reducible refine' k_var ?g0 ?_); (case g0 => exact rfl))
  | ((with_reducible refine' k_seqN ?g0 ?_); (case g0 => (try simp only [startD, g_cons, g_nil, List.map_cons, List.map_nil, List.length_cons, List.length_nil, Nat.reduceAdd, Nat.reduceSub, List.replicate_succ, List.replicate_zero, List.cons_append, List.nil_append, List.set_cons_zero, List.set_cons_succ, List.zip_cons_cons, List.zip_nil_right, List.zip_nil_left]); try exact rfl))
  | ((with_reducible refine' k_retN ?g0 ?_); (case g0 => (try simp only [startD, g_cons, g_nil, List.map_cons, List.map_nil, List.length_cons, List.length_nil, Nat.reduceAdd, Nat.reduceSub, List.replicate_succ, List.replicate_zero, List.cons_append, List.nil_append, List.set_cons_zero, List.set_cons_succ, List.zip_cons_cons, List.zip_nil_right, List.zip_nil_left]); try exact rfl))
  | (with_reducible refine k_nedev ?_)
  | (with_reducible refine k_ifS ?_)
  | (with_reducible refine k_next ?_)
  | (with_reducible refine k_drop ?_)
  | (with_reducible refine k_set ?_)
  | (with_reducible refine k_asg ?_)
  | (with_reducible refine k_sub ?_)
  | (with_reducible refine k_par ?_)
  | (with_reducible refine k_asP ?_)
  | (with_reducible refine k_par3 ?_)
  | (with_reducible refine k_asP3 ?_)
  | (with_reducible refine k_aug ?_)
  | (with_reducible refine k_for ?_)
  | (with_reducible refine k_B ?_)
  | (with_reducible refine k_asB ?_)
  | (with_reducible refine k_and ?_)
  | (with_reducible refine k_or ?_)
  | (with_reducible refine k_not ?_)
  | (with_reducible refine k_andV ?_)
  | (with_reducible refine k_orV ?_)
  | (with_reducible refine k_notV ?_)
  | (with_reducible refine k_chain ?_)
  | (with_reducible refine k_yes ?_)
  | (with_reducible refine k_if ?_)
  | (with_reducible refine k_c ?_)
  | (with_reducible refine k_op ?_)
  | (with_reducible refine k_nil ?_)
  | (with_reducible refine k_cons ?_)
  | (with_reducible refine k_tup ?_)
  | (with_reducible refine k_lst ?_)
  | (with_reducible refine k_call ?_)
  | (with_reducible refine k_fn ?_)
  | (with_reducible refine k_sl ?_)
  | (with_reducible refine k_app ?_)
  | (with_reducible refine k_pop ?_)
  | (with_reducible refine k_it ?_)
  | (with_reducible refine k_ik ?_)
  | (with_reducible refine k_il ?_)
  | (with_reducible refine k_ir ?_)
  | (with_reducible refine k_lc ?_)
  | (with_reducible refine k_addi ?_)
  | (with_reducible refine k_iaddi ?_)
  | (with_reducible refine k_eqi ?_)
  | (with_reducible refine k_nei ?_)
  | (with_reducible refine k_eqs ?_)
  | (with_reducible refine k_nes ?_)
  | (with_reducible refine k_eqb ?_)
  | (with_reducible refine k_neb ?_)
  | (with_reducible refine k_eqst ?_)
  | (with_reducible refine k_isN ?_)
  | (with_reducible refine k_notN ?_)
  | (with_reducible refine k_rsls ?_)
  | (with_reducible refine k_rsl ?_)
  | (with_reducible refine k_lent ?_)
  | (with_reducible refine k_i2 ?_)
  | (with_reducible refine k_toi ?_)
  | (with_reducible refine k_tob ?_)
  | (with_reducible refine k_itw ?_)
  | (with_reducible refine k_itt ?_)
  | (with_reducible refine k_lc2 ?_)
  | (with_reducible refine k_get ?_)
  | (with_reducible refine k_dc ?_)
  | ((with_reducible refine' k_ask ?g0 ?_); (case g0 => exact rfl))
  | ((with_reducible refine' k_ix ?g0 ?_); (case g0 => exact rfl))
  | ((with_reducible refine' k_lix ?g0 ?g1 ?_); (case g0 => walk_at "mem"); (case g1 => exact rfl))
  | ((with_reducible refine' k_int ?g0 ?_); (case g0 => first | exact trivial | exact cm2 | (show (0 : Int) < _; omega) | (show CMul _ _; exact .inl ⟨by omega, by omega⟩) | (show CMul _ _; exact .inr ⟨by omega, by omega⟩) | (show CDiv _ _; exact ⟨by omega, by omega⟩) | exact ⟨by decide, by decide⟩))
  | ((with_reducible refine' k_addt ?g0 ?_); (case g0 => walk_at "line"))
  | ((with_reducible refine' sl_s ?g0 ?_); (case g0 => walk_at "line"))
  | ((with_reducible refine' k_inT ?g0 ?g1 ?_); (case g0 => exact rfl); (case g1 => exact rfl))
  | ((with_reducible refine' k_ninT ?g0 ?g1 ?_); (case g0 => exact rfl); (case g1 => exact rfl))
  | ((with_reducible refine' k_inL ?g0 ?g1 ?g2 ?_); (case g0 => walk_at "mem"); (case g1 => exact rfl); (case g2 => exact rfl))
  | ((with_reducible refine' k_ninL ?g0 ?g1 ?g2 ?_); (case g0 => walk_at "mem"); (case g1 => exact rfl); (case g2 => exact rfl))
  | ((with_reducible refine' k_lenl ?g0 ?_); (case g0 => walk_at "mem"))
  | ((with_reducible refine' k_ninD ?g0 ?_); (case g0 => walk_at "mem"))
  | ((with_reducible refine' k_inD ?g0 ?_); (case g0 => walk_at "mem"))
  | ((with_reducible refine' k_rik ?g0 ?_); (case g0 => walk_at "mem"))
  | ((with_reducible refine' k_ril ?g0 ?_); (case g0 => walk_at "mem"))
  | ((with_reducible refine' k_isi ?g0 ?g1 ?_); (case g0 => exact rfl); (case g1 => exact rfl))
  | ((with_reducible refine' k_isl ?g0 ?_); (case g0 => walk_at "mem"))
  | ((with_reducible refine' k_rget ?g0 ?_); (case g0 => walk_at "mem"))
  | ((with_reducible refine' k_dix ?g0 ?g1 ?_); (case g0 => walk_at "mem"); (case g1 => assumption))
  | ((with_reducible refine' k_iaddl ?g0 ?g1 ?g2 ?_); (case g0 => walk_at "mem"); (case g1 => walk_at "mem"); (case g2 => walk_at "line"))
  | ((with_reducible refine' k_addl ?g0 ?g1 ?g2 ?_); (case g0 => walk_at "mem"); (case g1 => walk_at "mem"); (case g2 => walk_at "line"))
  | ((with_reducible refine' k_rall ?g0 ?g1 ?_); (case g0 => walk_at "mem"); (case g1 => exact rfl))
  | ((with_reducible refine' k_tot ?g0 ?_); (case g0 => walk_at "mem"))
  | ((with_reducible refine' k_t ?g0 ?_); (case g0 => exact rfl))
  | ((with_reducible refine' k_f ?g0 ?_); (case g0 => exact rfl)))
local macro_rules | `(tactic| walk_at "st") => `(tactic| (repeat (walk_at "s1")); try dsimp only)
local macro_rules | `(tactic| walk_at "c") => `(tactic| try simp only [inV_two, d_no, d_on, d_off, d_open, d_shut, d_no', d_on', d_off', d_open', d_shut', w_cold, w_cold', v_heat, reduceCtorEq, decide_true, decide_false, Bool.or_false, Bool.false_or, Bool.or_true, Bool.true_or, Bool.not_true, Bool.not_false, Bool.false_eq_true, Bool.true_eq_false, if_true, if_false, reduceIte])
local macro_rules | `(tactic| walk_at "len") => `(tactic| (intro ds M Q EX h; repeat (obtain ⟨x, h⟩ := h; try (subst x; exact rfl))))
theorem pyTs_run : ∀ r : List Wth, pyTs (r.map fun w => D.str w.s) = some (r.map fun w => PyData.str w.s)
  | [] => rfl
  | w :: r => by rw [List.map_cons, pyTs, pyTs_run r]; rfl
theorem lay_run : ∀ r : List Wth, PyData.canLayAll0 (r.map fun w => PyData.str w.s) = true
  | [] => rfl
  | w :: r => by
    have := wth_lay w
    simp only [List.map_cons, PyData.canLayAll0, this, lay_run r, Bool.and_true]
theorem dep_run : ∀ r : List Wth, PyData.depthAll (r.map fun w => PyData.str w.s) ≤ 1
  | [] => by rw [List.map_nil]; simp [PyData.depthAll]
  | w :: r => by
    have := dep_run r
    simp only [PyData.depth, PyData.depthAll, List.map_cons]
    omega
theorem k_neRun {M : Mm} {Q : QD} {r : List Wth} (h : Q (.bl (!r.isEmpty)) M) : rEqD true (runD r) (.tup []) M Q := by
  have e : rEqD true (runD r) (.tup []) M Q = ask (pyD M (runD r)) fun d => ask (pyD M (.tup [])) fun e => SeqAt.shaped d = true ∧ SeqAt.shaped e = true ∧ Q (.bl (!PyData.eqv d e)) M := rfl
  have p1 : pyD M (runD r) = some (.tuple (r.map fun w => PyData.str w.s)) := by
    show (pyTs (r.map fun w => D.str w.s)).map PyData.tuple = _
    rw [pyTs_run]
    rfl
  rw [e, p1, show pyD M (.tup []) = some (.tuple []) from rfl, ask_some, ask_some]
  refine ⟨?_, by decide, ?_⟩
  · unfold SeqAt.shaped
    rw [Bool.and_eq_true]
    have := dep_run r
    exact ⟨by simpa [PyData.canLay0] using lay_run r, decide_eq_true (by simp only [PyData.depth]; omega)⟩
  · cases r with
    | nil => exact h
    | cons w r =>
      rw [show PyData.eqv (.tuple ((w :: r).map fun w => PyData.str w.s)) (.tuple []) = false by simp [PyData.eqv, PyData.eqvAll]]
      exact h
theorem k_eqBB {M : Mm} {Q : QD} {a b : Addr} (h1 : M a = some (.lst [.bl true, .bl true])) (h2 : M b = some (.lst [.bl true, .bl true])) (h : Q (.bl true) M) : rEqD false (.obj a) (.obj b) M Q := by
  have e : rEqD false (.obj a) (.obj b) M Q = ask (pyD M (.obj a)) fun d => ask (pyD M (.obj b)) fun e => SeqAt.shaped d = true ∧ SeqAt.shaped e = true ∧ Q (.bl (PyData.eqv d e)) M := rfl
  rw [e]
  simp only [pyD, h1, h2, pyTs, pyT, Option.map_some, ask_some]
  refine ⟨by decide +kernel, by decide +kernel, ?_⟩
  rw [show PyData.eqv (.list [.bool true, .bool true]) (.list [.bool true, .bool true]) = true by decide +kernel]
  exact h
theorem seen_snoc (h : House) (dev : Dev) (who : Bool) (s : Stand) (a : List Wth) (w : Wth) : seenB h dev who s (a ++ [w]) = (seenB h dev who s a || sets h (walkS h s a) who dev) := by
  rw [seenB_app]
  simp [seenB]
theorem k_andT {ta tb : DTE} {Γ : Ge} {M : Mm} {Q : QD} (hx : ∀ R : QD, R (.bl true) M → ta Γ M R) (h : tb Γ M Q) : dAndV ta tb Γ M Q := k_andV (hx _ (k_asB (k_t rfl h)))
section
variable {P : Program} {w : World} {K : PySem.W.Frag} {mg : Str → Option Value} {base : Heap}
abbrev s_law_ring_right : Stmt := topS 89
theorem sc_law_ring_right : FnScope ["_law_house_here", "_law_device", "_law_told", "_law_start", "_law_run", "_law_turn", "_law_stand", "_law_words_so", "_law_seen", "_law_here", "_law_weather", "_law_both", "_law_middle", "_law_who"] ["_law_house_here", "_law_device", "_law_told"] (defScope s_law_ring_right) := ⟨rfl, rfl, rfl, by decide +kernel, rfl, by decide +kernel, by decide +kernel⟩
def sp_law_ring_right : DSp := fun ds M Q _ => ∃ (h : House) (dev : Dev) (s : St0) (r : List Wth) (t : Stand) (ring : List Wth), ds = [houseD h, .str (Dev.s dev), .tup [startDt s, runD r, runD ring]] ∧ h.Ok ∧ s ∈ starts h ∧ RunTo h (begin0 s) r t ∧ r.length ≤ 1000 ∧ Ring h t dev ring ∧ Q (.bl true) M
theorem ok_law_ring_right {f : Addr} {fd : FuncData} (c_law_tick : Cal P w K mg base CX0 "_law_tick" 3 ["_law_house_here", "_law_stand", "_law_weather"] sp_law_tick) (c_is_start : Cal P w K mg base CX0 "is_start" 8 ["house", "value"] sp_is_start) (c_law_led : Cal P w K mg base CX0 "_law_led" 4 ["_law_house_here", "_law_start", "_law_run"] sp_law_led) (F : Fun K "_law_ring_right" "_law_ring_right" s_law_ring_right f fd) : DFn P w K mg base CX0 9 f fd ["_law_house_here", "_law_device", "_law_told"] sp_law_ring_right := by
  refine dfn_ok F sc_law_ring_right (by walk_at "len") fun cdv A outer s H E hr => ?_
  have hu := hr.units
  refine ⟨_, (dss_cons (ds_asg (dv 2) (dg_tup (is := [3, 4, 5]) (pg_tup rfl (pgs_cons (pg_name (i := 3) sc_law_ring_right.nd rfl (Or.inl rfl)) (pgs_cons (pg_name (i := 4) sc_law_ring_right.nd rfl (Or.inl rfl)) (pgs_cons (pg_name (i := 5) sc_law_ring_right.nd rfl (Or.inl rfl)) pgs_nil)))) rfl))
        (dss_cons (ds_set (i := 6) sc_law_ring_right.nd rfl (.inl rfl) (de_ix hu (de_ix hu (de_cal c_law_led (hr.mono (by decide)) (by rfl) pass0 (da_cons (dv 0) (da_cons (dv 3) (da_cons (dv 4) da_nil)))) de_int (fun _ _ => rfl)) de_int (fun _ _ => rfl)))
        (dss_cons (ds_asg (de_tup (da_cons (de_if (dt_cmp (op_eqDD hu) (dv 1) de_str (nomark _)) (de_lst (da_cons de_str (da_cons de_str da_nil))) (de_lst (da_cons de_str (da_cons de_str da_nil)))) (da_cons (de_lst (da_cons de_bl (da_cons de_bl da_nil))) (da_cons (dv 6) da_nil)))) (dg_tup (is := [7, 8, 9]) (pg_tup rfl (pgs_cons (pg_name (i := 7) sc_law_ring_right.nd rfl (Or.inr rfl)) (pgs_cons (pg_name (i := 8) sc_law_ring_right.nd rfl (Or.inr rfl)) (pgs_cons (pg_name (i := 9) sc_law_ring_right.nd rfl (Or.inl rfl)) pgs_nil)))) rfl))
        (dss_cons (ds_for PassesOwn.never rfl (di_tup (dv 5)) (dg_name (pg_name (i := 10) sc_law_ring_right.nd rfl (Or.inl rfl))) (dss_cons (ds_asg (de_cal c_law_tick (hr.mono (by decide)) (by rfl) pass0 (da_cons (dv 0) (da_cons (dv 9) (da_cons (dv 10) da_nil)))) (dg_tup (is := [9, 11, 12]) (pg_tup rfl (pgs_cons (pg_name (i := 9) sc_law_ring_right.nd rfl (Or.inl rfl)) (pgs_cons (pg_name (i := 11) sc_law_ring_right.nd rfl (Or.inr rfl)) (pgs_cons (pg_name (i := 12) sc_law_ring_right.nd rfl (Or.inl rfl)) pgs_nil)))) rfl))
        (dss_one (ds_set (i := 8) sc_law_ring_right.nd rfl (.inr rfl) (de_lc (own := [("_law_who", 13)]) rfl sc_law_ring_right.nd (di_tup (de_tup (da_cons de_int (da_cons de_int da_nil)))) (blkOk_by (own := [("_law_who", 13)]) (N := ["_law_house_here", "_law_device", "_law_told", "_law_start", "_law_run", "_law_turn", "_law_stand", "_law_words_so", "_law_seen", "_law_here", "_law_weather", "_law_both", "_law_middle", "_law_who"]) (sc := defScope s_law_ring_right) (by decide +kernel)) (fun _ _ _ _ _ => (dg_name (pg_name (i := 13) sc_law_ring_right.nd rfl (Or.inl rfl)))) (fun _ _ _ _ _ => dts_nil) (fun _ _ _ _ _ => (de_or (de_ix hu (dv 8) (dv 13) (fun _ _ => rfl)) (de_one (de_cmp (op_inDD hu) (de_ix hu (dv 11) (dv 13) (fun _ _ => rfl)) (dv 7) (by rfl))))))))))
        (dss_one (ds_ret (de_and (de_cmp (op_neDD hu) (dv 5) (de_tup da_nil) (nomark _)) (de_and (de_cmp (op_eqDD hu) (dv 9) (dv 6) (nomark _)) (de_and (de_cmp (op_eqDD hu) (dv 8) (de_lst (da_cons de_bl (da_cons de_bl da_nil))) (nomark _)) (de_one (de_cal c_is_start (hr.mono (by decide)) (by rfl) pass0 (da_cons (dv 0) (da_cons (dv 3) da_nil))))))))))))), ?_⟩
  rintro ds M Q EX ⟨h, dev, s, r, t, ring, rfl, o, hs, hr, hrl, R, q⟩
  have to := hr.ok o (begin0_ok o hs)
  walk_at "st"
  refine ⟨h, s, r, rfl, o, hs, hr.ws, by omega, fun d e M1 le1 => ?_⟩
  rw [hr.to]
  walk_at "st"
  walk_at "c"
  have words : ∀ (Γ : Ge) (R : QD), (∀ p, M1 p = none → R (.obj p) (mset M1 p (.lst (wordsD dev)))) → (if decide (dev = .heater) = true then dLst (dCons (dC (.str "off")) (dCons (dC (.str "on")) dNil)) Γ M1 R
      else dLst (dCons (dC (.str "open")) (dCons (dC (.str "shut")) dNil)) Γ M1 R) := fun Γ R hR => by
    cases dev
    · refine k_t (by decide) ?_
      walk_at "st"
      exact hR
    · refine k_f (by decide) ?_
      walk_at "st"
      exact hR
  refine words _ _ fun p hp => ?_
  walk_at "st"
  intro sn hsn
  walk_at "st"
  have hsp : sn ≠ p := mneN hsn
  have le2 : Le M (mset (mset M1 p (.lst (wordsD dev))) sn (.lst [.bl false, .bl false])) := le1.tr ((Le.new hp).tr (Le.new hsn))
  have hp2 : mset (mset M1 p (.lst (wordsD dev))) sn (.lst [.bl false, .bl false]) p = some (.lst (wordsD dev)) := (mset_ne (Ne.symm hsp)).trans mset_same
  have hs2 : mset (mset M1 p (.lst (wordsD dev))) sn (.lst [.bl false, .bl false]) sn = some (.lst [.bl false, .bl false]) := mset_same
  generalize mset (mset M1 p (.lst (wordsD dev))) sn (.lst [.bl false, .bl false]) = M2 at le2 hp2 hs2 ⊢
  show forBody (srcC (ring.map fun w => D.str w.s)) _ _ _ _ _
  refine ⟨ring.map (fun w : Wth => D.str w.s), fun i Γ' M' => ∃ a, Le M M' ∧ M' p = some (.lst (wordsD dev)) ∧ M' a = some (.lst [.bl (seenB h dev false t (ring.take i)), .bl (seenB h dev true t (ring.take i))]) ∧
    ∃ x10 x11 x12 x13, Γ' = [some (houseD h), some (.str dev.s), some (.tup [startDt s, runD r, runD ring]), some (startDt s), some (runD r), some (runD ring), some (standD t), some (.obj p), some (.obj a), some (standD (walkS h t (ring.take i))), x10, x11, x12, x13],
    fun _ _ _ _ => rfl, ⟨sn, le2, hp2, hs2, _, _, _, _, rfl⟩, fun i d Γ' M' hi ⟨a, le3, hp3, ha3, x10, x11, x12, x13, eΓ⟩ => ?_, fun Γ' M' ⟨a, le3, hp3, ha3, x10, x11, x12, x13, eΓ⟩ => ?_⟩
  · subst eΓ
    rw [List.getElem?_map] at hi
    obtain ⟨w, hw, rfl⟩ := Option.map_eq_some_iff.mp hi
    have hwm := R.run.ws w (List.mem_of_getElem? hw)
    have uo : (walkS h t (ring.take i)).Ok h := RunTo.ok o (r := ring.take i) (a := t) ⟨fun u z => R.run.ws u (List.mem_of_mem_take z), rfl⟩ to
    have wt := walk_take (h := h) (s := t) hw
    have st0 := seen_snoc h dev false t (ring.take i) w
    have st1 := seen_snoc h dev true t (ring.take i) w
    have et : ring.take (i + 1) = ring.take i ++ [w] := by rw [List.take_add_one, hw]; rfl
    rw [← et] at st0 st1
    generalize walkS h t (ring.take i) = u at uo wt st0 st1 ⊢
    refine k_ask rfl ?_
    walk_at "st"
    refine ⟨h, u, w, rfl, o, uo, ?_⟩
    refine k_ask rfl ?_
    walk_at "st"
    generalize seenB h dev false t (ring.take i) = b0 at ha3 st0
    generalize seenB h dev true t (ring.take i) = b1 at ha3 st1
    have pd : pairD h u = .tup [.str (deed0 h u).s, .str (deed1 h u).s] := rfl
    rw [pd]
    refine lc_mapS [(0 : Int), 1] D.int (fun i => .bl (if i = 0 then (b0 || sets h u false dev) else (b1 || sets h u true dev))) srcC_ok (line3 (by simp)) (fun l acc z hl hz R2 hR => ?_) fun l hl => ?_
    · refine k_ask rfl ⟨by simp, ?_⟩
      have hpl : mset M' l (.lst acc) p = some (.lst (wordsD dev)) := (mset_ne (mne hp3 hl)).trans hp3
      have hal : mset M' l (.lst acc) a = some (.lst [.bl b0, .bl b1]) := (mset_ne (mne ha3 hl)).trans ha3
      obtain rfl | hz := List.mem_cons.mp hz
      · rw [if_pos rfl] at hR
        refine k_yes (k_t rfl (k_orB (b1 := b0) (b2 := sets h u false dev) ?_ ?_ hR))
        · intro R hR; walk_at "st"; exact hR
        · intro R hR
          walk_at "st"
          refine k_inL hpl rfl (words_V dev) ?_
          rw [in_words]
          exact hR
      · rw [List.mem_singleton.mp hz, if_neg (by decide)] at hR
        rw [List.mem_singleton.mp hz]
        refine k_yes (k_t rfl (k_orB (b1 := b1) (b2 := sets h u true dev) ?_ ?_ hR))
        · intro R hR; walk_at "st"; exact hR
        · intro R hR
          walk_at "st"
          refine k_inL hpl rfl (words_V dev) ?_
          rw [in_words]
          exact hR
    · refine ⟨l, le3.tr (Le.new hl), (mset_ne (mne hp3 hl)).trans hp3, mset_same.trans ?_, some (.str w.s), some (.tup [.str (deed0 h u).s, .str (deed1 h u).s]), some (standD (midS h u)), x13, ?_⟩
      · rw [st0, st1]
        rfl
      · rw [wt]
        rfl
  · subst eΓ
    rw [List.length_map, List.take_length] at ha3 ⊢
    rw [R.s0, R.s1] at ha3
    rw [R.run.to]
    have ne := R.ne
    dsimp only
    refine k_ret (k_andT ?_ (k_andT ?_ (k_andV ?_)))
    · intro R2 hR
      walk_at "st"
      refine k_neRun ?_
      cases ring with
      | nil => exact absurd rfl ne
      | cons w r => exact hR
    · intro R2 hR
      walk_at "st"
      rw [decide_eq_true rfl]
      exact hR
    · walk_at "st"
      intro l hl
      refine k_eqBB ((mset_ne (mne ha3 hl)).trans ha3) mset_same ?_
      walk_at "st"
      exact ⟨h, s, rfl, o, starts_n o hs, M, le3.tr (Le.new hl), q⟩
end
end L3

/-! The law's own: likeness; the known houses. -/
namespace L3
open PySem PySem.Spec PyProof.Rows L2
local macro_rules | `(tactic| walk_at "mem") => `(tactic| first | assumption | exact mset_same | (refine (mset_ne ?_).trans ?_ <;> first | assumption | exact Ne.symm (by assumption) | exact mset_same | (refine (mset_ne ?_).trans ?_ <;> first | assumption | exact Ne.symm (by assumption) | exact mset_same)))
local macro_rules | `(tactic| walk_at "line") => `(tactic| first | decide | (simp only [List.length_cons, List.length_nil, List.length_map, List.length_append]; first | decide | omega) | (refine sl_b ?_; simp only [List.length_cons, List.length_nil, List.length_map, List.length_append]; first | decide | omega))
local macro_rules | `(tactic| walk_at "s1") => `(tactic| first
  | ((with_reducible refine' k_var ?g0 ?_); (case g0 => exact rfl))
  | ((with_reducible refine' k_seqN ?g0 ?_); (case g0 => (try simp only [startD, g_cons, g_nil, List.map_cons, List.map_nil, List.length_cons, List.length_nil, Nat.reduceAdd, Nat.reduceSub, List.replicate_succ, List.replicate_zero, List.cons_append, List.nil_append, List.set_cons_zero, List.set_cons_succ, List.zip_cons_cons, List.zip_nil_right, List.zip_nil_left]); try exact rfl))
  | ((with_reducible refine' k_retN ?g0 ?_); (case g0 => (try simp only [startD, g_cons, g_nil, List.map_cons, List.map_nil, List.length_cons, List.length_nil, Nat.reduceAdd, Nat.reduceSub, List.replicate_succ, List.replicate_zero, List.cons_append, List.nil_append, List.set_cons_zero, List.set_cons_succ, List.zip_cons_cons, List.zip_nil_right, List.zip_nil_left]); try exact rfl))
  | (with_reducible refine k_nedev ?_)
  | (with_reducible refine k_ifS ?_)
  | (with_reducible refine k_next ?_)
  | (with_reducible refine k_drop ?_)
  | (with_reducible refine k_set ?_)
  | (with_reducible refine k_asg ?_)
  | (with_reducible refine k_sub ?_)
  | (with_reducible refine k_par ?_)
  | (with_reducible refine k_asP ?_)
  | (with_reducible refine k_par3 ?_)
  | (with_reducible refine k_asP3 ?_)
  | (with_reducible refine k_aug ?_)
  | (with_reducible refine k_for ?_)
  | (with_reducible refine k_B ?_)
  | (with_reducible refine k_asB ?_)
  | (with_reducible refine k_and ?_)
  | (with_reducible refine k_or ?_)
  | (with_reducible refine k_not ?_)
  | (with_reducible refine k_andV ?_)
  | (with_reducible refine k_orV ?_)
  | (with_reducible refine k_notV ?_)
  | (with_reducible refine k_chain ?_)
  | (with_reducible refine k_yes ?_)
  | (with_reducible refine k_if ?_)
  | (with_reducible refine k_c ?_)
  | (with_reducible refine k_op ?_)
  | (with_reducible refine k_nil ?_)
  | (with_reducible refine k_cons ?_)
  | (with_reducible refine k_tup ?_)
  | (with_reducible refine k_lst ?_)
  | (with_reducible refine k_call ?_)
  | (with_reducible refine k_fn ?_)
  | (with_reducible refine k_sl ?_)
  | (with_reducible refine k_app ?_)
  | (with_reducible refine k_pop ?_)
  | (with_reducible refine k_it ?_)
  | (with_reducible refine k_ik ?_)
  | (with_reducible refine k_il ?_)
  | (with_reducible refine k_ir ?_)
  | (with_reducible refine k_lc ?_)
  | (with_reducible refine k_addi ?_)
  | (with_reducible refine k_iaddi ?_)
  | (with_reducible refine k_eqi ?_)
  | (with_reducible refine k_nei ?_)
  | (with_reducible refine k_eqs ?_)
  | (with_reducible refine k_nes ?_)
  | (with_reducible refine k_eqb ?_)
  | (with_reducible refine k_neb ?_)
  | (with_reducible refine k_eqst ?_)
  | (with_reducible refine k_isN ?_)
  | (with_reducible refine k_notN ?_)
  | (with_reducible refine k_rsls ?_)
  | (with_reducible refine k_rsl ?_)
  | (with_reducible refine k_lent ?_)
  | (with_reducible refine k_i2 ?_)
  | (with_reducible refine k_toi ?_)
  | (with_reducible refine k_tob ?_)
  | (with_reducible refine k_itw ?_)
  | (with_reducible refine k_itt ?_)
  | (with_reducible refine k_lc2 ?_)
  | (with_reducible refine k_get ?_)
  | (with_reducible refine k_dc ?_)
  | ((with_reducible refine' k_ask ?g0 ?_); (case g0 => exact rfl))
  | ((with_reducible refine' k_ix ?g0 ?_); (case g0 => exact rfl))
  | ((with_reducible refine' k_lix ?g0 ?g1 ?_); (case g0 => walk_at "mem"); (case g1 => exact rfl))
  | ((with_reducible refine' k_int ?g0 ?_); (case g0 => first | exact trivial | exact cm2 | (show (0 : Int) < _; omega) | (show CMul _ _; exact .inl ⟨by omega, by omega⟩) | (show CMul _ _; exact .inr ⟨by omega, by omega⟩) | (show CDiv _ _; exact ⟨by omega, by omega⟩) | exact ⟨by decide, by decide⟩))
  | ((with_reducible refine' k_addt ?g0 ?_); (case g0 => walk_at "line"))
  | ((with_reducible refine' sl_s ?g0 ?_); (case g0 => walk_at "line"))
  | ((with_reducible refine' k_inT ?g0 ?g1 ?_); (case g0 => exact rfl); (case g1 => exact rfl))
  | ((with_reducible refine' k_ninT ?g0 ?g1 ?_); (case g0 => exact rfl); (case g1 => exact rfl))
  | ((with_reducible refine' k_inL ?g0 ?g1 ?g2 ?_); (case g0 => walk_at "mem"); (case g1 => exact rfl); (case g2 => exact rfl))
  | ((with_reducible refine' k_ninL ?g0 ?g1 ?g2 ?_); (case g0 => walk_at "mem"); (case g1 => exact rfl); (case g2 => exact rfl))
  | ((with_reducible refine' k_lenl ?g0 ?_); (case g0 => walk_at "mem"))
  | ((with_reducible refine' k_ninD ?g0 ?_); (case g0 => walk_at "mem"))
  | ((with_reducible refine' k_inD ?g0 ?_); (case g0 => walk_at "mem"))
  | ((with_reducible refine' k_rik ?g0 ?_); (case g0 => walk_at "mem"))
  | ((with_reducible refine' k_ril ?g0 ?_); (case g0 => walk_at "mem"))
  | ((with_reducible refine' k_isi ?g0 ?g1 ?_); (case g0 => exact rfl); (case g1 => exact rfl))
  | ((with_reducible refine' k_isl ?g0 ?_); (case g0 => walk_at "mem"))
  | ((with_reducible refine' k_rget ?g0 ?_); (case g0 => walk_at "mem"))
  | ((with_reducible refine' k_dix ?g0 ?g1 ?_); (case g0 => walk_at "mem"); (case g1 => assumption))
  | ((with_reducible refine' k_iaddl ?g0 ?g1 ?g2 ?_); (case g0 => walk_at "mem"); (case g1 => walk_at "mem"); (case g2 => walk_at "line"))
  | ((with_reducible refine' k_addl ?g0 ?g1 ?g2 ?_); (case g0 => walk_at "mem"); (case g1 => walk_at "mem"); (case g2 => walk_at "line"))
  | ((with_reducible refine' k_rall ?g0 ?g1 ?_); (case g0 => walk_at "mem"); (case g1 => exact rfl))
  | ((with_reducible refine' k_tot ?g0 ?_); (case g0 => walk_at "mem"))
  | ((with_reducible refine' k_t ?g0 ?_); (case g0 => exact rfl))
  | ((with_reducible refine' k_f ?g0 ?_); (case g0 => exact rfl)))
local macro_rules | `(tactic| walk_at "st") => `(tactic| (repeat (walk_at "s1")); try dsimp only)
local macro_rules | `(tactic| walk_at "c") => `(tactic| try simp only [inV_two, d_no, d_on, d_off, d_open, d_shut, d_no', d_on', d_off', d_open', d_shut', w_cold, w_cold', v_heat, reduceCtorEq, decide_true, decide_false, Bool.or_false, Bool.false_or, Bool.or_true, Bool.true_or, Bool.not_true, Bool.not_false, Bool.false_eq_true, Bool.true_eq_false, if_true, if_false, reduceIte])
local macro_rules | `(tactic| walk_at "len") => `(tactic| (intro ds M Q EX h; repeat (obtain ⟨x, h⟩ := h; try (subst x; exact rfl))))
def asE (ds : List D) (M : Mm) (R : Src → Mm → Prop) : Prop := match ds with
  | [.obj a] => isL M (.obj a) ∧ R (srcE a) M
  | _ => False
theorem k_ie {tr : DTA} {Γ : Ge} {M : Mm} {R : Src → Mm → Prop} (h : tr Γ M fun ds M1 => asE ds M1 R) : dIE tr Γ M R := h
theorem k_asE {a : Addr} {M : Mm} {R : Src → Mm → Prop} {xs : List D} (h : M a = some (.lst xs)) (q : R (srcE a) M) : asE [.obj a] M R := k_isl h q
def sortI (M : Mm) : D → Option Int
  | .str _ => some 3
  | .obj a => match M a with
    | some (.lst _) => some 4
    | _ => none
  | _ => none
def sp_never : DSp := fun _ _ _ _ => False
theorem never_ok {P : Program} {w : World} {K : PySem.W.Frag} {mg : Str → Option Value} {base : Heap} {k : Nat} {f : Addr} {fd : FuncData} {ps : List Str} : DFn P w K mg base CX0 k f fd ps sp_never :=
  ⟨fun vs H R E ⟨_, _, _, _, _, _, h, _⟩ => h.elim, fun _ _ _ _ _ _ _ _ _ _ _ _ _ ⟨_, _, _, _, _, _, h, _⟩ => h.elim⟩
section
variable {P : Program} {w : World} {K : PySem.W.Frag} {mg : Str → Option Value} {base : Heap}
abbrev s_law_sort : Stmt := topS 63
theorem sc_law_sort : FnScope ["_law_thing"] ["_law_thing"] (defScope s_law_sort) := ⟨rfl, rfl, rfl, by decide +kernel, rfl, by decide +kernel, by decide +kernel⟩
def sp_law_sort : DSp := fun ds M Q _ => ∃ d n, ds = [d] ∧ sortI M d = some n ∧ Q (.int n) M
theorem ok_law_sort {f : Addr} {fd : FuncData} (m_isinstance : mg "isinstance" = none) (m_bool : mg "bool" = none) (m_int : mg "int" = none) (m_str : mg "str" = none) (m_list : mg "list" = none) (m_tuple : mg "tuple" = none) (F : Fun K "_law_sort" "_law_sort" s_law_sort f fd) : DFn P w K mg base CX0 1 f fd ["_law_thing"] sp_law_sort := by
  refine dfn_ok F sc_law_sort (by walk_at "len") fun cdv A outer s H E hr => ?_
  have hu := hr.units
  refine ⟨_, (dss_cons (ds_if (dt_val (de_callB call_isiD (by rfl) m_isinstance (by decide +kernel) (da_cons (dv 0) (da_cons (de_tyn (n := "bool") (by rfl) m_bool (by decide +kernel)) da_nil)))) (dss_one (ds_ret de_int)) dss_nil)
        (dss_cons (ds_if (dt_val (de_callB call_isiD (by rfl) m_isinstance (by decide +kernel) (da_cons (dv 0) (da_cons (de_tyn (n := "int") (by rfl) m_int (by decide +kernel)) da_nil)))) (dss_one (ds_ret de_int)) dss_nil)
        (dss_cons (ds_if (dt_val (de_callB call_isiD (by rfl) m_isinstance (by decide +kernel) (da_cons (dv 0) (da_cons (de_tyn (n := "str") (by rfl) m_str (by decide +kernel)) da_nil)))) (dss_one (ds_ret de_int)) dss_nil)
        (dss_cons (ds_if (dt_val (de_callB call_isiD (by rfl) m_isinstance (by decide +kernel) (da_cons (dv 0) (da_cons (de_tyn (n := "list") (by rfl) m_list (by decide +kernel)) da_nil)))) (dss_one (ds_ret de_int)) dss_nil)
        (dss_one (ds_ret (de_if (dt_val (de_callB call_isiD (by rfl) m_isinstance (by decide +kernel) (da_cons (dv 0) (da_cons (de_tyn (n := "tuple") (by rfl) m_tuple (by decide +kernel)) da_nil)))) de_int de_int))))))), ?_⟩
  rintro ds M Q EX ⟨d, n, rfl, hn, q⟩
  have q := fin.same q
  walk_at "st"
  cases d with
  | str x =>
    cases hn
    refine k_isi (b := false) rfl rfl ?_
    walk_at "st"
    exact q
  | obj a =>
    unfold sortI at hn
    simp only at hn
    split at hn
    · rename_i xs ha
      cases hn
      have ty : tyn M (.obj a) = some "list" := by
        unfold tyn
        simp only [ha]
      refine k_isi (b := false) ty rfl ?_
      walk_at "st"
      refine k_isi (b := false) ty rfl ?_
      walk_at "st"
      refine k_isi (b := false) ty rfl ?_
      walk_at "st"
      refine k_isi (b := true) ty rfl ?_
      walk_at "st"
      exact q
    · cases hn
  | _ => cases hn

abbrev s_law_same : Stmt := topS 64
theorem sc_law_same : FnScope ["_law_told", "_law_due", "_law_k", "_law_part"] ["_law_told", "_law_due"] (defScope s_law_same) := ⟨rfl, rfl, rfl, by decide +kernel, rfl, by decide +kernel, by decide +kernel⟩
def sp_law_same0 : DSp := fun ds M Q _ => ∃ x y : Str, ds = [.str x, .str y] ∧ Q (.bl (decide (x = y))) M
theorem ok_law_same0 {f : Addr} {fd : FuncData} (c_law_sort : Cal P w K mg base CX0 "_law_sort" 1 ["_law_thing"] sp_law_sort) (m_len : mg "len" = none) (m_enumerate : mg "enumerate" = none) (c_law_same : Cal P w K mg base CX0 "_law_same" 1 ["_law_told", "_law_due"] sp_never) (F : Fun K "_law_same" "_law_same" s_law_same f fd) : DFn P w K mg base CX0 2 f fd ["_law_told", "_law_due"] sp_law_same0 := by
  refine dfn_ok F sc_law_same (by walk_at "len") fun cdv A outer s H E hr => ?_
  have hu := hr.units
  refine ⟨_, (dss_cons (ds_if (dt_cmp (op_neDD hu) (de_cal c_law_sort (hr.mono (by decide)) (by rfl) pass0 (da_cons (dv 0) da_nil)) (de_cal c_law_sort (hr.mono (by decide)) (by rfl) pass0 (da_cons (dv 1) da_nil)) (nomark _)) (dss_one (ds_ret de_bl)) dss_nil)
        (dss_cons (ds_if (PW.pt (dw_and (dt_cmp op_gtD (de_cal c_law_sort (hr.mono (by decide)) (by rfl) pass0 (da_cons (dv 0) da_nil)) de_int (nomark _)) (dw_and1 (dt_cmp op_ltD (de_cal c_law_sort (hr.mono (by decide)) (by rfl) pass0 (da_cons (dv 0) da_nil)) de_int (nomark _))))) (dss_cons (ds_if (dt_cmp (op_neDD hu) (de_callB call_lenD (by rfl) m_len PySem.boot_len (da_cons (dv 0) da_nil)) (de_callB call_lenD (by rfl) m_len PySem.boot_len (da_cons (dv 1) da_nil)) (nomark _)) (dss_one (ds_ret de_bl)) dss_nil)
        (dss_one (ds_ret (de_cmp (op_eqDD hu) (de_lc (own := [("_law_k", 2), ("_law_part", 3)]) rfl sc_law_same.nd (di_enum (by rfl) m_enumerate (da_cons (dv 0) da_nil)) (blkOk_by (own := [("_law_k", 2), ("_law_part", 3)]) (N := ["_law_told", "_law_due", "_law_k", "_law_part"]) (sc := defScope s_law_same) (by decide +kernel)) (fun _ _ _ _ _ => (dg_tup (is := [2, 3]) (pg_tup rfl (pgs_cons (pg_name (i := 2) sc_law_same.nd rfl (Or.inl rfl)) (pgs_cons (pg_name (i := 3) sc_law_same.nd rfl (Or.inl rfl)) pgs_nil))) rfl)) (fun _ _ _ _ _ => (dts_one (dt_not (dt_val (de_cal c_law_same (hr.mono (by decide)) (by rfl) pass0 (da_cons (dv 3) (da_cons (de_ix hu (dv 1) (dv 2) (fun _ _ => rfl)) da_nil))))))) (fun _ _ _ _ _ => (dv 2))) (de_lst da_nil) (nomark _))))) dss_nil)
        (dss_one (ds_ret (de_cmp (op_eqDD hu) (dv 0) (dv 1) (nomark _)))))), ?_⟩
  rintro ds M Q EX ⟨x, y, rfl, q⟩
  have q := fin.same q
  walk_at "st"
  refine ⟨.str x, 3, rfl, rfl, ?_⟩
  walk_at "st"
  refine ⟨.str y, 3, rfl, rfl, ?_⟩
  walk_at "st"
  refine ⟨.str x, 3, rfl, rfl, ?_⟩
  walk_at "st"
  exact q
def sp_law_same : DSp := fun ds M Q _ => ∃ (a b : Addr) (xs : List Str), ds = [.obj a, .obj b] ∧ M a = some (.lst (xs.map D.str)) ∧ M b = some (.lst (xs.map D.str)) ∧ xs.length ≤ 100 ∧ Q (.bl true) M
theorem ok_law_same {f : Addr} {fd : FuncData} (c_law_sort : Cal P w K mg base CX0 "_law_sort" 1 ["_law_thing"] sp_law_sort) (m_len : mg "len" = none) (m_enumerate : mg "enumerate" = none) (c_law_same : Cal P w K mg base CX0 "_law_same" 2 ["_law_told", "_law_due"] sp_law_same0) (F : Fun K "_law_same" "_law_same" s_law_same f fd) : DFn P w K mg base CX0 3 f fd ["_law_told", "_law_due"] sp_law_same := by
  refine dfn_ok F sc_law_same (by walk_at "len") fun cdv A outer s H E hr => ?_
  have hu := hr.units
  refine ⟨_, (dss_cons (ds_if (dt_cmp (op_neDD hu) (de_cal c_law_sort (hr.mono (by decide)) (by rfl) pass0 (da_cons (dv 0) da_nil)) (de_cal c_law_sort (hr.mono (by decide)) (by rfl) pass0 (da_cons (dv 1) da_nil)) (nomark _)) (dss_one (ds_ret de_bl)) dss_nil)
        (dss_cons (ds_if (PW.pt (dw_and (dt_cmp op_gtD (de_cal c_law_sort (hr.mono (by decide)) (by rfl) pass0 (da_cons (dv 0) da_nil)) de_int (nomark _)) (dw_and1 (dt_cmp op_ltD (de_cal c_law_sort (hr.mono (by decide)) (by rfl) pass0 (da_cons (dv 0) da_nil)) de_int (nomark _))))) (dss_cons (ds_if (dt_cmp (op_neDD hu) (de_callB call_lenD (by rfl) m_len PySem.boot_len (da_cons (dv 0) da_nil)) (de_callB call_lenD (by rfl) m_len PySem.boot_len (da_cons (dv 1) da_nil)) (nomark _)) (dss_one (ds_ret de_bl)) dss_nil)
        (dss_one (ds_ret (de_cmp (op_eqDD hu) (de_lc (own := [("_law_k", 2), ("_law_part", 3)]) rfl sc_law_same.nd (di_enum (by rfl) m_enumerate (da_cons (dv 0) da_nil)) (blkOk_by (own := [("_law_k", 2), ("_law_part", 3)]) (N := ["_law_told", "_law_due", "_law_k", "_law_part"]) (sc := defScope s_law_same) (by decide +kernel)) (fun _ _ _ _ _ => (dg_tup (is := [2, 3]) (pg_tup rfl (pgs_cons (pg_name (i := 2) sc_law_same.nd rfl (Or.inl rfl)) (pgs_cons (pg_name (i := 3) sc_law_same.nd rfl (Or.inl rfl)) pgs_nil))) rfl)) (fun _ _ _ _ _ => (dts_one (dt_not (dt_val (de_cal c_law_same (hr.mono (by decide)) (by rfl) pass0 (da_cons (dv 3) (da_cons (de_ix hu (dv 1) (dv 2) (fun _ _ => rfl)) da_nil))))))) (fun _ _ _ _ _ => (dv 2))) (de_lst da_nil) (nomark _))))) dss_nil)
        (dss_one (ds_ret (de_cmp (op_eqDD hu) (dv 0) (dv 1) (nomark _)))))), ?_⟩
  rintro ds M Q EX ⟨a, b, xs, rfl, ha, hb, hl, q⟩
  have q := fin.same q
  have sa : sortI M (.obj a) = some 4 := by unfold sortI; simp only [ha]
  have sb : sortI M (.obj b) = some 4 := by unfold sortI; simp only [hb]
  walk_at "st"
  refine ⟨.obj a, 4, rfl, sa, ?_⟩
  walk_at "st"
  refine ⟨.obj b, 4, rfl, sb, ?_⟩
  walk_at "st"
  refine ⟨.obj a, 4, rfl, sa, ?_⟩
  walk_at "st"
  refine ⟨.obj a, 4, rfl, sa, ?_⟩
  walk_at "st"
  refine k_f (by simp) ?_
  walk_at "st"
  refine k_ie ?_
  walk_at "st"
  refine k_asE ha ?_
  refine lc_pure ((xs.map D.str).mapIdx fun i d => .tup [.int (.ofNat i), d]) (fun _ => none) (fun l acc hl => ⟨xs.map D.str, (mset_ne (mne ha hl)).trans ha, rfl⟩) (line3 (by simp; omega)) (fun l acc d hl hd R hR => ?_) fun l hl => ?_
  · obtain ⟨i, hi, rfl⟩ := List.mem_mapIdx.mp hd
    rw [List.length_map] at hi
    rw [List.getElem_map]
    refine k_ask rfl ⟨by simp, ?_⟩
    have hbl : mset M l (.lst acc) b = some (.lst (xs.map D.str)) := (mset_ne (mne hb hl)).trans hb
    walk_at "st"
    refine k_lix hbl (show (xs.map D.str)[i]? = some (.str xs[i]) by rw [List.getElem?_map, List.getElem?_eq_getElem hi]; rfl) ?_
    walk_at "st"
    refine ⟨xs[i], xs[i], rfl, ?_⟩
    rw [decide_eq_true rfl]
    walk_at "st"
    exact hR
  · have e : ((xs.map D.str).mapIdx fun i d => D.tup [.int (.ofNat i), d]).filterMap (fun _ => (none : Option D)) = [] := by simp
    rw [e]
    walk_at "st"
    intro c hc
    refine k_eqNil (ds := []) ((mset_ne (Ne.symm (mneN hc))).trans mset_same) mset_same (fun d z => nomatch z) ?_
    exact (q.new hl).new hc

def still0 : List Page := [⟨⟨[], 0⟩, ⟨[], 0⟩, ⟨[], 0⟩⟩]
def keen0 : List Page := [⟨⟨[.on, .sht], 0⟩, ⟨[.off], 0⟩, ⟨[], 0⟩⟩]
def airy0 : List Page := [⟨⟨[.on], 0⟩, ⟨[.opn, .off], 0⟩, ⟨[], 0⟩⟩]
def feud0 : House := ⟨3, 1, 0, 1, 1, 2, [.mild], ⟨1, 2, 3, keen0⟩, ⟨1, 0, 1, airy0⟩⟩
def alone0 : House := ⟨4, 2, 0, 1, 2, 3, [.cold, .mild], ⟨1, 1, 3, still0⟩, ⟨1, 0, 4, still0⟩⟩
def third0 : House := ⟨3, 1, 0, 1, 1, 2, [.mild], ⟨1, 2, 3, keen0⟩, ⟨1, 0, 1, still0⟩⟩
theorem still_ok : ∀ p ∈ still0, p.Ok still0.length := fun p hp => by
  rw [List.mem_singleton.mp hp]
  exact ⟨⟨by simp, by simp, by simp, by decide⟩, ⟨by simp, by simp, by simp, by decide⟩, ⟨by simp, by simp, by simp, by decide⟩⟩
theorem keen_ok : ∀ p ∈ keen0, p.Ok keen0.length := fun p hp => by
  rw [List.mem_singleton.mp hp]
  exact ⟨⟨by decide, by decide, by decide, by decide⟩, ⟨by decide, by decide, by decide, by decide⟩, ⟨by simp, by simp, by simp, by decide⟩⟩
theorem airy_ok : ∀ p ∈ airy0, p.Ok airy0.length := fun p hp => by
  rw [List.mem_singleton.mp hp]
  exact ⟨⟨by decide, by decide, by decide, by decide⟩, ⟨by decide, by decide, by decide, by decide⟩, ⟨by simp, by simp, by simp, by decide⟩⟩
theorem feud_ok : feud0.Ok := ⟨by decide, by decide, by decide, by decide, by decide, by decide, .inr (.inl rfl), ⟨by decide, by decide, by decide, by decide, keen_ok⟩, ⟨by decide, by decide, by decide, by decide, airy_ok⟩⟩
theorem alone_ok : alone0.Ok := ⟨by decide, by decide, by decide, by decide, by decide, by decide, .inr (.inr rfl), ⟨by decide, by decide, by decide, by decide, still_ok⟩, ⟨by decide, by decide, by decide, by decide, still_ok⟩⟩
theorem third_ok : third0.Ok := ⟨by decide, by decide, by decide, by decide, by decide, by decide, .inr (.inl rfl), ⟨by decide, by decide, by decide, by decide, keen_ok⟩, ⟨by decide, by decide, by decide, by decide, still_ok⟩⟩
theorem still_no {h : House} (e : h.b.book = still0) (s : Stand) (dev : Dev) : sets h s true dev = false := by
  have d1 : ∀ t : Stand, deedOf h t true = .no := fun t => by
    have z : (lineOf h t true).tries = [] := by
      unfold lineOf Pers.page
      show (((h.b.book[t.pg true]?).getD _).at _).tries = []
      rw [e]
      cases hn : t.pg true with
      | zero => simp [still0, Page.at]; split <;> rfl
      | succ n => simp [still0, Page.at]; split <;> rfl
    unfold deedOf
    rw [z]
    rfl
  have d2 : deed1 h s = .no := by
    unfold deed1 lookD
    split
    · exact d1 _
    · rfl
  unfold sets
  rw [show (bif true then deed1 h s else deed0 h s) = deed1 h s from rfl, d2]
  cases dev <;> rfl
theorem still_peace {h : House} (e : h.b.book = still0) (dev : Dev) : ¬ Fight h dev := fun ⟨_, _, _, _, _, o, _, _, z, _⟩ => by
  rw [still_no e] at z
  cases z
theorem feud_fight (dev : Dev) : Fight feud0 dev := by
  have k : Reach feud0 ⟨4, true, false, 0, 0, 0⟩ := ⟨⟨0, false, false⟩, (by show (⟨0, false, false⟩ : St0) ∈ starts0 7; simp [starts0, row4]), [.mild, .mild], by decide +kernel, by decide +kernel⟩
  have R : Ring feud0 ⟨4, true, false, 0, 0, 0⟩ dev [.mild, .mild, .mild, .mild] := by
    cases dev
    · exact ⟨⟨by decide, by decide +kernel⟩, by decide, by decide +kernel, by decide +kernel, by decide⟩
    · exact ⟨⟨by decide, by decide +kernel⟩, by decide, by decide +kernel, by decide +kernel, by decide⟩
  exact R.fight k

abbrev s_law_known : Stmt := topS 85
theorem sc_law_known : FnScope ["_law_still", "_law_keen", "_law_airy", "_law_room", "_law_feud", "_law_alone"] [] (defScope s_law_known) := ⟨rfl, rfl, rfl, by decide +kernel, rfl, by decide +kernel, by decide +kernel⟩
def sp_law_known : DSp := fun ds M Q _ => ds = [] ∧ ∀ a, M a = none → Q (.obj a) (mset M a (.lst [houseD feud0, houseD alone0, houseD third0]))
theorem ok_law_known {f : Addr} {fd : FuncData} (F : Fun K "_law_known" "_law_known" s_law_known f fd) : DFn P w K mg base CX0 1 f fd [] sp_law_known := by
  refine dfn_ok F sc_law_known (by walk_at "len") fun cdv A outer s H E hr => ?_
  have hu := hr.units
  refine ⟨_, (dss_cons (ds_asg (de_tup (da_cons (de_tup (da_cons (de_tup (da_cons (de_tup (da_cons (de_tup da_nil) (da_cons de_int da_nil))) (da_cons (de_tup (da_cons (de_tup da_nil) (da_cons de_int da_nil))) (da_cons (de_tup (da_cons (de_tup da_nil) (da_cons de_int da_nil))) da_nil)))) da_nil)) (da_cons (de_tup (da_cons (de_tup (da_cons (de_tup (da_cons (de_tup (da_cons de_str (da_cons de_str da_nil))) (da_cons de_int da_nil))) (da_cons (de_tup (da_cons (de_tup (da_cons de_str da_nil)) (da_cons de_int da_nil))) (da_cons (de_tup (da_cons (de_tup da_nil) (da_cons de_int da_nil))) da_nil)))) da_nil)) da_nil))) (dg_tup (is := [0, 1]) (pg_tup rfl (pgs_cons (pg_name (i := 0) sc_law_known.nd rfl (Or.inl rfl)) (pgs_cons (pg_name (i := 1) sc_law_known.nd rfl (Or.inl rfl)) pgs_nil))) rfl))
        (dss_cons (ds_set (i := 2) sc_law_known.nd rfl (.inl rfl) (de_tup (da_cons (de_tup (da_cons (de_tup (da_cons (de_tup (da_cons de_str da_nil)) (da_cons de_int da_nil))) (da_cons (de_tup (da_cons (de_tup (da_cons de_str (da_cons de_str da_nil))) (da_cons de_int da_nil))) (da_cons (de_tup (da_cons (de_tup da_nil) (da_cons de_int da_nil))) da_nil)))) da_nil)))
        (dss_cons (ds_set (i := 3) sc_law_known.nd rfl (.inl rfl) (de_tup (da_cons de_int (da_cons de_int (da_cons (de_tup (da_cons de_int (da_cons de_int (da_cons de_int (da_cons de_int da_nil))))) da_nil)))))
        (dss_cons (ds_set (i := 4) sc_law_known.nd rfl (.inl rfl) (de_tup (da_cons (dv 3) (da_cons (de_tup (da_cons de_str da_nil)) (da_cons (de_tup (da_cons (de_tup (da_cons de_int (da_cons de_int (da_cons de_int (da_cons (dv 1) da_nil))))) (da_cons (de_tup (da_cons de_int (da_cons de_int (da_cons de_int (da_cons (dv 2) da_nil))))) da_nil))) da_nil)))))
        (dss_cons (ds_set (i := 5) sc_law_known.nd rfl (.inl rfl) (de_tup (da_cons (de_tup (da_cons de_int (da_cons de_int (da_cons (de_tup (da_cons de_int (da_cons de_int (da_cons de_int (da_cons de_int da_nil))))) da_nil)))) (da_cons (de_tup (da_cons de_str (da_cons de_str da_nil))) (da_cons (de_tup (da_cons (de_tup (da_cons de_int (da_cons de_int (da_cons de_int (da_cons (dv 0) da_nil))))) (da_cons (de_tup (da_cons de_int (da_cons de_int (da_cons de_int (da_cons (dv 0) da_nil))))) da_nil))) da_nil)))))
        (dss_one (ds_ret (de_lst (da_cons (dv 4) (da_cons (dv 5) (da_cons (de_tup (da_cons (dv 3) (da_cons (de_tup (da_cons de_str da_nil)) (da_cons (de_tup (da_cons (de_tup (da_cons de_int (da_cons de_int (da_cons de_int (da_cons (dv 1) da_nil))))) (da_cons (de_tup (da_cons de_int (da_cons de_int (da_cons de_int (da_cons (dv 0) da_nil))))) da_nil))) da_nil)))) da_nil))))))))))), ?_⟩
  rintro ds M Q EX ⟨rfl, q⟩
  walk_at "st"
  intro a ha
  exact fin.same (q a ha)
end
end L3

/-! fight_ring: a ring, or InvalidWord. -/
namespace L3
open PySem PySem.Spec PyProof.Rows L2
local macro_rules | `(tactic| walk_at "mem") => `(tactic| first | assumption | exact mset_same | (refine (mset_ne ?_).trans ?_ <;> first | assumption | exact Ne.symm (by assumption) | exact mset_same | (refine (mset_ne ?_).trans ?_ <;> first | assumption | exact Ne.symm (by assumption) | exact mset_same)))
local macro_rules | `(tactic| walk_at "line") => `(tactic| first | decide | (simp only [List.length_cons, List.length_nil, List.length_map, List.length_append]; first | decide | omega) | (refine sl_b ?_; simp only [List.length_cons, List.length_nil, List.length_map, List.length_append]; first | decide | omega))
local macro_rules | `(tactic| walk_at "s1") => `(tactic| first
  | ((with_reducible refine' k_var ?g0 ?_); (case g0 => exact rfl))
  | ((with_reducible refine' k_seqN ?g0 ?_); (case g0 => (try simp only [startD, g_cons, g_nil, List.map_cons, List.map_nil, List.length_cons, List.length_nil, Nat.reduceAdd, Nat.reduceSub, List.replicate_succ, List.replicate_zero, List.cons_append, List.nil_append, List.set_cons_zero, List.set_cons_succ, List.zip_cons_cons, List.zip_nil_right, List.zip_nil_left]); try exact rfl))
  | ((with_reducible refine' k_retN ?g0 ?_); (case g0 => (try simp only [startD, g_cons, g_nil, List.map_cons, List.map_nil, List.length_cons, List.length_nil, Nat.reduceAdd, Nat.reduceSub, List.replicate_succ, List.replicate_zero, List.cons_append, List.nil_append, List.set_cons_zero, List.set_cons_succ, List.zip_cons_cons, List.zip_nil_right, List.zip_nil_left]); try exact rfl))
  | (with_reducible refine k_nedev ?_)
  | (with_reducible refine k_ifS ?_)
  | (with_reducible refine k_next ?_)
  | (with_reducible refine k_drop ?_)
  | (with_reducible refine k_set ?_)
  | (with_reducible refine k_asg ?_)
  | (with_reducible refine k_sub ?_)
  | (with_reducible refine k_par ?_)
  | (with_reducible refine k_asP ?_)
  | (with_reducible refine k_par3 ?_)
  | (with_reducible refine k_asP3 ?_)
  | (with_reducible refine k_aug ?_)
  | (with_reducible refine k_for ?_)
  | (with_reducible refine k_B ?_)
  | (with_reducible refine k_asB ?_)
  | (with_reducible refine k_and ?_)
  | (with_reducible refine k_or ?_)
  | (with_reducible refine k_not ?_)
  | (with_reducible refine k_andV ?_)
  | (with_reducible refine k_orV ?_)
  | (with_reducible refine k_notV ?_)
  | (with_reducible refine k_chain ?_)
  | (with_reducible refine k_yes ?_)
  | (with_reducible refine k_if ?_)
  | (with_reducible refine k_c ?_)
  | (with_reducible refine k_op ?_)
  | (with_reducible refine k_nil ?_)
  | (with_reducible refine k_cons ?_)
  | (with_reducible refine k_tup ?_)
  | (with_reducible refine k_lst ?_)
  | (with_reducible refine k_call ?_)
  | (with_reducible refine k_fn ?_)
  | (with_reducible refine k_sl ?_)
  | (with_reducible refine k_app ?_)
  | (with_reducible refine k_pop ?_)
  | (with_reducible refine k_it ?_)
  | (with_reducible refine k_ik ?_)
  | (with_reducible refine k_il ?_)
  | (with_reducible refine k_ir ?_)
  | (with_reducible refine k_lc ?_)
  | (with_reducible refine k_addi ?_)
  | (with_reducible refine k_iaddi ?_)
  | (with_reducible refine k_eqi ?_)
  | (with_reducible refine k_nei ?_)
  | (with_reducible refine k_eqs ?_)
  | (with_reducible refine k_nes ?_)
  | (with_reducible refine k_eqb ?_)
  | (with_reducible refine k_neb ?_)
  | (with_reducible refine k_eqst ?_)
  | (with_reducible refine k_isN ?_)
  | (with_reducible refine k_notN ?_)
  | (with_reducible refine k_rsls ?_)
  | (with_reducible refine k_rsl ?_)
  | (with_reducible refine k_lent ?_)
  | (with_reducible refine k_i2 ?_)
  | (with_reducible refine k_toi ?_)
  | (with_reducible refine k_tob ?_)
  | (with_reducible refine k_itw ?_)
  | (with_reducible refine k_itt ?_)
  | (with_reducible refine k_lc2 ?_)
  | (with_reducible refine k_get ?_)
  | (with_reducible refine k_dc ?_)
  | ((with_reducible refine' k_ask ?g0 ?_); (case g0 => exact rfl))
  | ((with_reducible refine' k_ix ?g0 ?_); (case g0 => exact rfl))
  | ((with_reducible refine' k_lix ?g0 ?g1 ?_); (case g0 => walk_at "mem"); (case g1 => exact rfl))
  | ((with_reducible refine' k_int ?g0 ?_); (case g0 => first | exact trivial | exact cm2 | (show (0 : Int) < _; omega) | (show CMul _ _; exact .inl ⟨by omega, by omega⟩) | (show CMul _ _; exact .inr ⟨by omega, by omega⟩) | (show CDiv _ _; exact ⟨by omega, by omega⟩) | exact ⟨by decide, by decide⟩))
  | ((with_reducible refine' k_addt ?g0 ?_); (case g0 => walk_at "line"))
  | ((with_reducible refine' sl_s ?g0 ?_); (case g0 => walk_at "line"))
  | ((with_reducible refine' k_inT ?g0 ?g1 ?_); (case g0 => exact rfl); (case g1 => exact rfl))
  | ((with_reducible refine' k_ninT ?g0 ?g1 ?_); (case g0 => exact rfl); (case g1 => exact rfl))
  | ((with_reducible refine' k_inL ?g0 ?g1 ?g2 ?_); (case g0 => walk_at "mem"); (case g1 => exact rfl); (case g2 => exact rfl))
  | ((with_reducible refine' k_ninL ?g0 ?g1 ?g2 ?_); (case g0 => walk_at "mem"); (case g1 => exact rfl); (case g2 => exact rfl))
  | ((with_reducible refine' k_lenl ?g0 ?_); (case g0 => walk_at "mem"))
  | ((with_reducible refine' k_ninD ?g0 ?_); (case g0 => walk_at "mem"))
  | ((with_reducible refine' k_inD ?g0 ?_); (case g0 => walk_at "mem"))
  | ((with_reducible refine' k_rik ?g0 ?_); (case g0 => walk_at "mem"))
  | ((with_reducible refine' k_ril ?g0 ?_); (case g0 => walk_at "mem"))
  | ((with_reducible refine' k_isi ?g0 ?g1 ?_); (case g0 => exact rfl); (case g1 => exact rfl))
  | ((with_reducible refine' k_isl ?g0 ?_); (case g0 => walk_at "mem"))
  | ((with_reducible refine' k_rget ?g0 ?_); (case g0 => walk_at "mem"))
  | ((with_reducible refine' k_dix ?g0 ?g1 ?_); (case g0 => walk_at "mem"); (case g1 => assumption))
  | ((with_reducible refine' k_iaddl ?g0 ?g1 ?g2 ?_); (case g0 => walk_at "mem"); (case g1 => walk_at "mem"); (case g2 => walk_at "line"))
  | ((with_reducible refine' k_addl ?g0 ?g1 ?g2 ?_); (case g0 => walk_at "mem"); (case g1 => walk_at "mem"); (case g2 => walk_at "line"))
  | ((with_reducible refine' k_rall ?g0 ?g1 ?_); (case g0 => walk_at "mem"); (case g1 => exact rfl))
  | ((with_reducible refine' k_tot ?g0 ?_); (case g0 => walk_at "mem"))
  | ((with_reducible refine' k_t ?g0 ?_); (case g0 => exact rfl))
  | ((with_reducible refine' k_f ?g0 ?_); (case g0 => exact rfl)))
local macro_rules | `(tactic| walk_at "st") => `(tactic| (repeat (walk_at "s1")); try dsimp only)
local macro_rules | `(tactic| walk_at "c") => `(tactic| try simp only [inV_two, d_no, d_on, d_off, d_open, d_shut, d_no', d_on', d_off', d_open', d_shut', w_cold, w_cold', v_heat, reduceCtorEq, decide_true, decide_false, Bool.or_false, Bool.false_or, Bool.or_true, Bool.true_or, Bool.not_true, Bool.not_false, Bool.false_eq_true, Bool.true_eq_false, if_true, if_false, reduceIte])
local macro_rules | `(tactic| walk_at "len") => `(tactic| (intro ds M Q EX h; repeat (obtain ⟨x, h⟩ := h; try (subst x; exact rfl))))
def optF : Option (St0 × List Wth × Stand × List Wth) → D
  | none => .non
  | some (s, r, _, g) => .tup [startDt s, runD r, runD g]
section
variable {P : Program} {w : World} {K : PySem.W.Frag} {mg : Str → Option Value} {base : Heap}
abbrev s_fight_ring : Stmt := topS 58
theorem sc_fight_ring : FnScope ["house", "device", "found"] ["house", "device"] (defScope s_fight_ring) := ⟨rfl, rfl, rfl, by decide +kernel, rfl, by decide +kernel, by decide +kernel⟩
def sp_fight_ring : DSp := fun ds M Q _ => ∃ h dev, ds = [houseD h, .str (Dev.s dev)] ∧ h.Ok ∧ ∀ res : Option (St0 × List Wth × Stand × List Wth), (res = none → ¬ Fight h dev) →
  (∀ s r t g, res = some (s, r, t, g) → s ∈ starts h ∧ RunTo h (begin0 s) r t ∧ r.length ≤ 1000 ∧ Ring h t dev g ∧ Reach h t) → Q (optF res) M
theorem ok_fight_ring {f : Addr} {fd : FuncData} (c_need_house : Cal P w K mg base CX0 "need_house" 7 ["value"] sp_need_house) (c_ring_with : Cal P w K mg base CX0 "ring_with" 6 ["house", "device"] sp_ring_with) (c_is_word : Cal P w K mg base CX0 "is_word" 1 ["value", "words"] sp_is_word) (c_start_to : Cal P w K mg base CX0 "start_to" 5 ["house", "stand"] sp_start_to) (k_DEVICES : Con mg K "DEVICES" (.tup [.str "heater", .str "window"])) (F : Fun K "fight_ring" "fight_ring" s_fight_ring f fd) : DFn P w K mg base CX0 8 f fd ["house", "device"] sp_fight_ring := by
  refine dfn_ok F sc_fight_ring (by walk_at "len") fun cdv A outer s H E hr => ?_
  have hu := hr.units
  refine ⟨_, (dss_cons (ds_expr (de_cal c_need_house (hr.mono (by decide)) (by rfl) pass0 (da_cons (dv 0) da_nil)))
        (dss_cons (ds_if (dt_not (dt_val (de_cal c_is_word (hr.mono (by decide)) (by rfl) pass0 (da_cons (dv 1) (da_cons (de_con k_DEVICES (by rfl)) da_nil))))) (dss_one ds_never) dss_nil)
        (dss_cons (ds_set (i := 2) sc_fight_ring.nd rfl (.inl rfl) (de_cal c_ring_with (hr.mono (by decide)) (by rfl) pass0 (da_cons (dv 0) (da_cons (dv 1) da_nil))))
        (dss_one (ds_ret (de_if (dt_cmp op_notD (dv 2) de_non (nomark _)) (de_op op_addD (de_cal c_start_to (hr.mono (by decide)) (by rfl) pass0 (da_cons (dv 0) (da_cons (de_ix hu (dv 2) de_int (fun _ _ => rfl)) da_nil))) (de_tup (da_cons (de_ix hu (dv 2) de_int (fun _ _ => rfl)) da_nil))) de_non)))))), ?_⟩
  rintro ds M Q EX ⟨h, dev, rfl, o, q⟩
  walk_at "st"
  refine ⟨h, rfl, o, ?_⟩
  walk_at "st"
  refine ⟨.str dev.s, ["heater", "window"], true, rfl, ?_, ?_⟩
  · cases dev <;> rfl
  walk_at "st"
  refine ⟨h, dev, rfl, o, fun res r0 r1 => ?_⟩
  cases res with
  | none =>
    unfold optP
    walk_at "st"
    exact fin.same (q none (fun _ => r0 rfl) fun _ _ _ _ e => nomatch e)
  | some tg =>
    obtain ⟨t, g⟩ := tg
    obtain ⟨rt, R⟩ := r1 t g rfl
    unfold optP
    walk_at "st"
    refine ⟨h, t, rfl, o, rt, fun s r hs hr hl => ?_⟩
    walk_at "st"
    exact fin.same (q (some (s, r, t, g)) (fun z => nomatch z) fun _ _ _ _ e => by
      cases e
      exact ⟨hs, hr, hl, R, rt⟩)
/-- what the class C, raised by X('..'), must say -/
structure ExF (K : PySem.W.Frag) (mg : Str → Option Value) (x : Str) (C : Addr) : Prop where
  ex : ∃ (bmB : List Value) (B newId initId : String), ExcBaseFacts B newId initId bmB ∧ PySem.W.excIn K C bmB newId = true
  g : mg x = some (.ref C)
  k : PySem.W.keepIn K (.ref C) = true
  b : PySem.W.subIn K (.ref C) (.type "BaseException") = some true
  t : PySem.W.typeIn K (.ref C) = some (.type "type")
def spOdd (P : Program) (w : World) (K : PySem.W.Frag) (C : Addr) : Sp := fun vs H R E => ∃ h d M, Ts K H vs [houseD h, d] ∧ MOk P w K M H ∧ h.Ok ∧ wordB d ["heater", "window"] = some false ∧ ∀ H', TS H H' → MOk P w K M H' → E (.ref C) none H'
theorem ok_fight_odd {C : Addr} {f : Addr} {fd : FuncData} (c_need_house : Cal P w K mg base CX0 "need_house" 7 ["value"] sp_need_house) (c_ring_with : Cal P w K mg base CX0 "ring_with" 6 ["house", "device"] sp_ring_with) (c_is_word : Cal P w K mg base CX0 "is_word" 1 ["value", "words"] sp_is_word) (c_start_to : Cal P w K mg base CX0 "start_to" 5 ["house", "stand"] sp_start_to) (k_DEVICES : Con mg K "DEVICES" (.tup [.str "heater", .str "window"])) (T : ExF K mg "InvalidWord" C) (F : Fun K "fight_ring" "fight_ring" s_fight_ring f fd) : FnOk P w K mg base (L2.CX P w) 8 f fd ["house", "device"] (spOdd P w K C) := by
  refine F.okX sc_fight_ring (fun vs H Q E ⟨h, d, M, t, _⟩ => t.len) fun cdv A outer s H vs Q E hr ⟨h, d, M, tt, mm, o, hw, hE⟩ => ?_
  have hu := hr.units
  obtain ⟨bmB, B, newId, initId, xF, xE⟩ := T.ex
  refine ⟨_, pss_cons (ds_expr (de_cal c_need_house (hr.mono (by decide)) (by rfl) pass0 (da_cons (dv 0) da_nil)))
    (pss_cons (ps_if (dt_not (dt_val (de_cal c_is_word (hr.mono (by decide)) (by rfl) pass0 (da_cons (dv 1) (da_cons (de_con k_DEVICES (by rfl)) da_nil)))))
      (pss_one (ps_raise rfl (takes_of rfl rfl rfl rfl) (pmk_own xF xE T.g T.k (raises_own T.b T.t) rfl))) pss_nil) pss_never), ?_⟩
  refine ⟨startD ["house", "device", "found"] [houseD h, d], M, { nx := fun Γ' M' => Γ' = startD ["house", "device", "found"] [houseD h, d] ∧ M' = M, rt := fun _ _ => False }, start_ok tt, mm, ?_, fun Γ' M' σ' H' ⟨e1, e2⟩ t1 m1 ee => ?_, fun _ _ _ _ z => z.elim, fun _ _ _ _ z => z.elim, fun _ _ _ _ z => z.elim⟩
  · walk_at "st"
    exact ⟨h, rfl, o, rfl, rfl⟩
  · subst e1
    subst e2
    refine ⟨_, M', fun b M'' => b = true ∧ M'' = M', ee, m1, ?_, fun b M'' H'' ⟨e3, e4⟩ t2 m2 => ?_⟩
    · walk_at "st"
      refine ⟨d, ["heater", "window"], false, rfl, hw, ?_⟩
      exact ⟨rfl, rfl⟩
    · subst e3
      subst e4
      exact hE H'' (t1.tr t2) m2
end
end L3

/-! What a def called within an except suite needs: the caught error's classes, split, join, zip. -/
namespace L3
open PySem PySem.Spec PyProof.Rows L2 HotX L2H
section
variable {X : Cx} {p : Addr × Obj}
/-- isinstance of the error that the context bears -/
theorem call_isH {D : Addr} (C : ExcC X.K D) (hz : Zc (.ref D) none p.2) (hf : ∃ vs, p.2.data = .fields vs) (hp : p ∈ X.pn) : CallR X (.builtin "isinstance") (rIsE X.K D p.1) := by
  rintro pins s σ H xs us Q I r ⟨c, cv, b, rfl, hcv, e, q⟩
  cases r with
  | cons rx rr => cases rr with
    | cons rt rr =>
      cases rr; cases rx
      have ec := hcv _ rt
      subst ec
      have hg := (I.pin p (List.mem_append_left _ hp)).1
      obtain ⟨vs, hv⟩ := hf
      obtain ⟨a, oe⟩ := p
      have J : PySem.W.InstAt (s.heap) a oe D none := by
        rcases oe with ⟨oc, od, oda, osl⟩
        obtain ⟨z1, z2⟩ := hz
        dsimp only at z1 z2 hv hg
        subst z1 z2 hv
        exact ⟨hg, rfl, rfl, trivial⟩
      refine PySem.W.kia_one (PySem.W.handS_kitx_exc C.hg C.hk C.hs C.hd C.ha C.hn C.ht C.hm) I.kIn J e (fun z => nomatch z) fun tk => ?_
      exact ⟨.bl b, H, I.kept (t' := tk) fun _ _ z => z, rfl, q⟩
def clsD : D → Option Value
  | .obj c => some (.ref c)
  | .ty n => some (.type n)
  | _ => none
def rIsED (K : PySem.W.Frag) (D a : Addr) : DRA := fun ds M Q => match ds with
  | [.obj b, c] => b = a ∧ ∃ cv bb, clsD c = some cv ∧ PySem.W.kitOne K (.ref D) cv = some bb ∧ Q (.bl bb) M
  | _ => False
theorem call_isHD {D : Addr} (C : ExcC X.K D) (hz : Zc (.ref D) none p.2) (hf : ∃ vs, p.2.data = .fields vs) (hp : p ∈ X.pn) : DCall X (.builtin "isinstance") (rIsED X.K D p.1) := call_imp (call_isH C hz hf hp) fun xs H R ⟨ds, M, Q, t, mm, h, f⟩ => by
  unfold rIsED at h
  split at h
  · rename_i b c
    obtain ⟨rfl, cv, bb, e1, e2, q⟩ := h
    obtain ⟨v, u, rfl, t1, t2⟩ := t.two
    rw [t1.obj_inv]
    refine ⟨u, cv, bb, rfl, fun z rz => ?_, e2, f _ M _ H q TS.rfl' mm (.bl _)⟩
    cases t2 with
    | obj a => cases rz; cases e1; rfl
    | ty n => cases rz; cases e1; rfl
    | _ => cases e1
  · exact h.elim
/-! ### split, join -/
section
variable {o e : Expr} {apos pos : Pos} {ta tb : DTE}
def dSplit (ta tb : DTE) : DTE := fun Γ M Q => ta Γ M fun x M1 => match x with
  | .str a => tb Γ M1 fun y M2 => match y with
    | .str b => (b.length == 0) = false ∧ a.length + 2 ≤ sizeLine ∧ ∀ p, M2 p = none → Q (.obj p) (mset M2 p (.lst ((Txt.split a b).map D.str)))
    | _ => False
  | _ => False
theorem de_split (ho : DE X o ta) (he : DE X e tb) (hs : starEach [e] X.env = [(false, eval e X.env)] := by rfl) (hbase : attributeBase o "split" X.env (eval o X.env) = eval o X.env := by rfl) (hline : (apos.endLine == pos.line) = true := by rfl) :
    DE X (.Call (.Attribute o "split" apos) [e] [] pos) (dSplit ta tb) := pe_imp (pe_split ho he hs hbase hline) fun σ H R ⟨Γ, M, Q, ee, mm, h, f⟩ => ⟨Γ, M, _, ee, mm, h, fun x M1 v1 H1 q1 t1 m1 r1 => by
  split at q1
  · rename_i a
    refine ⟨⟨a, r1.str_inv⟩, Γ, M1, _, ee.keep t1, m1, q1, fun y M2 v2 H2 q2 t2 m2 r2 => ?_⟩
    split at q2
    · rename_i b
      obtain ⟨h1, h2, q2⟩ := q2
      refine ⟨a, b, r1.str_inv, by rw [r2.str_inv], h1, h2, fun c hc => ?_⟩
      have z := Ts_strs (K := X.K) (H := H2) (Txt.split a b)
      exact f _ _ _ _ (q2 c (m2.free hc)) (t1.tr (t2.tr (TS.new hc))) (m2.addL hc z) (.obj c)
    · exact q2.elim
  · exact q1.elim⟩
def dJoin (ta tb : DTE) : DTE := fun Γ M Q => ta Γ M fun x M1 => match x with
  | .str a => tb Γ M1 fun y M2 => match y with
    | .obj c => ∃ ys : List Str, M2 c = some (.lst (ys.map D.str)) ∧ (ys.map (·.length)).sum + ys.length * a.length ≤ 16777216 ∧ Q (.str (Txt.join a ys)) M2
    | _ => False
  | _ => False
theorem toSs_map : ∀ ys : List Str, toSs (ys.map D.str) = some ys
  | [] => rfl
  | y :: ys => by
    have z := toSs_map ys
    simp only [List.map_cons, toSs, z]
    try rfl
theorem de_join (ho : DE X o ta) (he : DE X e tb) (hs : starEach [e] X.env = [(false, eval e X.env)] := by rfl) (hbase : attributeBase o "join" X.env (eval o X.env) = eval o X.env := by rfl) (hline : (apos.endLine == pos.line) = true := by rfl) :
    DE X (.Call (.Attribute o "join" apos) [e] [] pos) (dJoin ta tb) := pe_imp (pe_join ho he hs hbase hline) fun σ H R ⟨Γ, M, Q, ee, mm, h, f⟩ => ⟨Γ, M, _, ee, mm, h, fun x M1 v1 H1 q1 t1 m1 r1 => by
  split at q1
  · rename_i a
    refine ⟨⟨a, r1.str_inv⟩, Γ, M1, _, ee.keep t1, m1, q1, fun y M2 v2 H2 q2 t2 m2 r2 => ?_⟩
    split at q2
    · rename_i c
      obtain ⟨ys, h1, h2, q2⟩ := q2
      obtain ⟨xs, h3, h4⟩ := m2.lst h1
      have e5 := toSs_T h4 (toSs_map ys)
      subst e5
      exact ⟨a, c, ys, r1.str_inv, by rw [r2.obj_inv], .inl (.of h3), h2, f _ _ _ _ q2 (t1.tr t2) m2 (.str _)⟩
    · exact q2.elim
  · exact q1.elim⟩
end
/-! ### zip of two lists there -/
def srcZ (a b : Addr) : Src := fun M ds => ∃ xs ys, M a = some (.lst xs) ∧ M b = some (.lst ys) ∧ xs.length = ys.length ∧ ds = (xs.zip ys).map fun z => .tup [z.1, z.2]
def dIZ (tr : DTA) : DTI := fun Γ M R => tr Γ M fun ds M1 => match ds with
  | [.obj a, .obj b] => isL M1 (.obj a) ∧ isL M1 (.obj b) ∧ R (srcZ a b) M1
  | _ => False
theorem it_zip {P : Program} {w : World} {K : PySem.W.Frag} {a b : Addr} {H0 : Hp} : ItOk P w K (ItzH K a b) H0 (srcZ a b) where
  go := fun i M H ds _ mm ⟨xs, ys, ha, hb, hl, e⟩ hi => by
    obtain ⟨us, h1, h2⟩ := mm.lst ha
    obtain ⟨vs, g1, g2⟩ := mm.lst hb
    subst e
    rw [List.length_map, List.length_zip, ← hl, Nat.min_self] at hi
    obtain ⟨u, e1, _⟩ := h2.at (List.getElem?_eq_getElem hi)
    obtain ⟨v, e2, _⟩ := g2.at (List.getElem?_eq_getElem (hl ▸ hi))
    exact ⟨us, vs, u, v, .of h1, .of g1, e1, e2⟩
  yld := fun i M H x H' ds _ mm ⟨xs, ys, ha, hb, hl, e⟩ hi ⟨T, u, v, e1, e2, e3, e4, e5⟩ => by
    subst e e1 e3
    obtain ⟨us, h1, h2⟩ := mm.lst ha
    obtain ⟨vs, g1, g2⟩ := mm.lst hb
    obtain ⟨d, z1, r1⟩ := h2.at' (e4 us (.of h1))
    obtain ⟨d', z2, r2⟩ := g2.at' (e5 vs (.of g1))
    refine ⟨TS.new e2, mm.new e2, .tup [d, d'], ?_, .tup (.inl upd_same) (.cons (r1.keep (TS.new e2)) (.cons (r2.keep (TS.new e2)) .nil))⟩
    rw [List.getElem?_map, show (xs.zip ys)[i]? = some (d, d') from List.getElem?_zip_eq_some.mpr ⟨z1, z2⟩]
    rfl
  stop := fun i M H ds _ mm ⟨xs, ys, ha, hb, hl, e⟩ hi => by
    obtain ⟨us, h1, h2⟩ := mm.lst ha
    obtain ⟨vs, g1, g2⟩ := mm.lst hb
    subst e
    rw [List.length_map, List.length_zip, ← hl, Nat.min_self] at hi
    exact ⟨us, vs, .of h1, .of g1, by rw [h2.len]; exact hi⟩
theorem pip_imp {tg e : Expr} {t t' : TI} (h : PIP X p tg e t) (i : ∀ σ H Q, t' σ H Q → t σ H Q) : PIP X p tg e t' := ⟨fun pins s σ H Q I q => h.run pins s σ H Q I (i _ _ _ q)⟩
theorem di_zipH {e e2 : Expr} {tr : DTA} {q pos tpos : Pos} {elts : List Expr} {kk : Nat} (hg : Gl X "zip") (hm : X.mg "zip" = none) (ha : DA X [e, e2] tr)
    (hs : starEach [e, e2] X.env = (false, eval e X.env) :: starEach [e2] X.env := by rfl) (hpl : (backTo pos (starEach [e2] X.env)).any (·.1) = false := by rfl) : PIP X p (.Tuple elts kk tpos) (.Call (.Name "zip" q) [e, e2] [] pos) (lI X.prog X.w X.K (dIZ tr)) :=
  pip_imp (pi_zipH hg hm ha hs hpl) fun σ H R ⟨Γ, M, Q, ee, mm, h, f⟩ => ⟨Γ, M, _, ee, mm, h, fun ds M1 vs H1 q t1 m1 r1 => by
    split at q
    · rename_i a b
      obtain ⟨q0, q1, q⟩ := q
      obtain ⟨a', xs, e0, h0⟩ := isL_ok q0
      cases e0
      obtain ⟨b', ys, e0, g0⟩ := isL_ok q1
      cases e0
      obtain ⟨v, u, rfl, tv, tu⟩ := Ts.two r1
      obtain ⟨us, h1, _⟩ := m1.lst h0
      obtain ⟨ws, g1, _⟩ := m1.lst g0
      exact ⟨a, b, us, ws, by rw [tv.obj_inv, tu.obj_inv], .of h1, .of g1, f _ M1 _ H1 q t1 m1 it_zip⟩
    · exact q.elim⟩
theorem dg_tupH {tg : Expr} {is : List Nat} {n : Nat} (h : PGP X p tg (gTup X.K n (gNames is))) (hn : n = is.length) : PGP X p tg (lG X.K (asT is)) := ⟨fun pins s σ H v u Q hp I r ⟨d, sets, t, e, f⟩ => h.run pins s σ H v u Q hp I r (by
  cases d with
  | tup ds =>
    unfold asT at e
    dsimp only at e
    by_cases hl : ds.length = is.length
    · rw [if_pos hl] at e
      cases e
      obtain ⟨a, xs, rfl, h1, h2⟩ := t.tup_inv
      exact ⟨a, xs, rfl, h1.sq, by rw [h2.len, hl, hn], gNames_ok is xs ds σ H Q h2 hl f⟩
    · rw [if_neg hl] at e
      cases e
  | _ => cases e)⟩
theorem de_lcH {ti : DTI} {as : D → Option Sets} {tt : DTT} {te : DTE} {tg iter elt : Expr} {ifs : List Expr} {scope : Scope} {own : List (Str × Nat)} {pos : Pos} (hot : Hot1 X.A p) (hpn : p ∈ X.pn) (hN : X.N.Nodup) (hi : PIP X p tg iter (lI X.prog X.w X.K ti)) (ok : BlkOk X.N X.env.scope scope own)
    (hg : ∀ (s : Shared) (H : Hp) (C : Addr) (cl : List (Str × Addr)) (fp : List Addr), PGP (X.blk s H scope (compEnvC scope cl C X.env) fp) p tg (lG X.K as)) (ht : ∀ (s : Shared) (H : Hp) (C : Addr) (cl : List (Str × Addr)) (fp : List Addr), DTs (X.blk s H scope (compEnvC scope cl C X.env) fp) ifs tt)
    (he : ∀ (s : Shared) (H : Hp) (C : Addr) (cl : List (Str × Addr)) (fp : List Addr), DE (X.blk s H scope (compEnvC scope cl C X.env) fp) elt te) (hs : ∀ x, foldedSetIterable iter X.env x = pure x := by intro _; rfl) :
    DE X (.ListComp elt [⟨tg, iter, ifs, 0⟩] scope pos) (dLc ti as tt te (own.map (·.2))) := pe_imp (pe_lcH hot hpn hN hi ok hg ht he hs) fun _ _ _ h => l_lc h
end
/-! ### a def that is called while the error p is handled -/
structure FnHp (P : Program) (w : World) (K : PySem.W.Frag) (mg : Str → Option Value) (base : Heap) (k : Nat) (f : Addr) (fd : FuncData) (ps : List Str) (sp : Sp) (p : Addr × Obj) : Prop where
  ln : ∀ vs H Q E, sp vs H Q E → vs.length = ps.length
  go : ∀ (A : Around) (fr : List Env) (s : Shared) (H : Hp) (xs : Args) (us : List Value) (vs : List V) (Q : VK) (E : XK), RoomH k A → Hot1 A p → PinOk fr H s p → Env0 P w K mg base A fr s H → BindsTo s fd xs (ps.zip us) → Vals vs us → sp vs H Q E →
    codeAny (model P w) A (.call (.ref f) xs) (CR CX0 fr P w H s Q E) s
section
variable {P : Program} {w : World} {K : PySem.W.Frag} {mg : Str → Option Value} {base : Heap}
theorem fn_hp {x qual : Str} {st : Stmt} {f : Addr} {fd : FuncData} {N ps : List Str} {k : Nat} {sp : Sp} {p : Addr × Obj} (F : Fun K x qual st f fd) (S : FnScope N ps (defScope st)) (ln : ∀ vs H Q E, sp vs H Q E → vs.length = ps.length)
    (hbody : ∀ (cdv : Value) (A : Around) (fr : List Env) (s : Shared) (H : Hp) (vs : List V) (Q : VK) (E : XK), Hot1 A p → RoomH k (A.deeper (envOfC qual (defScope st) s.heap.objs.size f cdv)) → sp vs H Q E →
      ∃ t, PSs (cxH CX0 P w K mg base N qual (defScope st) f cdv A fr s H E p) (defBody st) t ∧ t { nx := fun _ H' => Q .non H', rt := Q } (L2.start N vs) H) : FnHp P w K mg base (k + 1) f fd ps sp p := by
  rcases F.ex with ⟨oc, od, kV, doc, pm, an, cdv, ct, osl, rfl, lk, hcd⟩
  refine ⟨ln, fun A fr s H xs us vs Q E hr hot hp e0 hb r hsp => ?_⟩
  have KX : K.In s.heap := e0.mod.kin.keeps fun b o z => (e0.bs b o z).1
  have nl : s.heap.NoLimit := e0.mod.nolimit.keeps fun b o z => (e0.bs b o z).1
  have hl := ln vs H Q E hsp
  refine codeAny_call_function hr.depth (KX _ _ lk) rfl S.co S.gen rfl (PySem.W.codeRec_of KX hcd) (hb _ _ _ _ (wpAny_newFunctionEnv_cells S.kind (fun y hy => ?_) fun env he s1 z => ?_))
  · obtain ⟨n, v⟩ := y
    obtain q | q := S.par n (List.of_mem_zip hy).1
    · exact .inl q
    · exact Or.inr ⟨q, PySem.W.cellsFrom_some _ _ _ (Or.inl q)⟩
  · subst he
    refine ⟨nl.keeps z.toInCall.keep, codeAny_func ?_⟩
    obtain ⟨t, ht, hq⟩ := hbody cdv A fr s H vs Q E hot (hr.deeper _) hsp
    refine wpAny_mono (ht.run [] s1 (L2.start N vs) H _ (inv_startH S hp e0 hl r z) hq) (fun fl s' hs => ?_) fun _ _ hs => hs
    cases fl with
    | ret u => obtain ⟨v, σ', H', J, rv, q⟩ := hs; exact ⟨v, H', J.os, J.bare, J.base, J.hok, rv, q⟩
    | next => obtain ⟨σ', H', J, q⟩ := hs; exact ⟨.non, H', J.os, J.bare, J.base, J.hok, rfl, q⟩
    | brk => obtain ⟨_, _, _, q⟩ := hs; exact q.elim
    | cont => obtain ⟨_, _, _, q⟩ := hs; exact q.elim
end
section
variable {X : Cx} {k : Nat} {f : Addr} {fd : FuncData} {ps : List Str} {sp : Sp} {p : Addr × Obj} {x : Str} {q pos : Pos} {e : Expr} {es : List Expr} {t : TA}
theorem pe_hp (F : FnHp X.prog X.w X.K X.mg X.base k f fd ps sp p) (hr : RoomH k X.A) (hot : Hot1 X.A p) (hp : p ∈ X.pn) (hg : Gl X x) (hm : X.mg x = some (.ref f)) (hk : PySem.W.keepIn X.K (.ref f) = true) (hb : Binds X.K fd ps []) (ha : PA X (e :: es) t)
    (hdb : (x == ("__debug__" : Str)) = false := by decide) (he : starEach (e :: es) X.env = (false, eval e X.env) :: starEach es X.env := by rfl) (hpl : (backTo pos (starEach es X.env)).any (·.1) = false := by rfl) : PE X (.Call (.Name x q) (e :: es) [] pos) (fun σ H R => t σ H fun vs H1 => sp vs H1 R E0) := by
  refine ⟨fun pins s σ H Q I h => wpAny_Call_Name_kw (ld_glob I hg hm ?_ hdb)⟩
  refine PySem.W.callWith_K (h₀ := X.base) I.ok.mod.kin hk (thn (ha.run pos pins s σ H _ I h) fun us s1 ⟨vs, H1, J, r, z⟩ => ⟨J.kIn, ?_⟩) he hpl
  have b := hb s1 us J.kIn (by rw [List.append_nil, ← r.length]; exact F.ln _ _ _ _ z)
  rw [List.append_nil] at b
  have P1 := J.pin p (List.mem_append_left _ hp)
  have hpin : PinOk X.stack H1 s1 p := ⟨P1.1, P1.2.1, fun hm => (List.mem_cons.mp (J.stkSub p.1 hm)).elim P1.2.2.1 P1.2.2.2.1, P1.2.2.2.2⟩
  refine wpAny_call (codeAny_mono (F.go X.A X.stack s1 H1 ⟨us, []⟩ us vs Q E0 hr hot hpin J.env0 b r z) fun res s' hq => ?_)
  cases res with
  | error e => exact hq.elim
  | ok fl => cases fl with
    | ret u => exact J.after hq
    | next => exact hq.elim
    | brk => exact hq.elim
    | cont => exact hq.elim
end
end L3

/-! The law's own _law_kin: which kinds the error is of. -/
namespace L3
open PySem PySem.Spec PyProof.Rows L2 HotX L2H
local macro_rules | `(tactic| walk_at "mem") => `(tactic| first | assumption | exact mset_same | (refine (mset_ne ?_).trans ?_ <;> first | assumption | exact Ne.symm (by assumption) | exact mset_same | (refine (mset_ne ?_).trans ?_ <;> first | assumption | exact Ne.symm (by assumption) | exact mset_same)))
local macro_rules | `(tactic| walk_at "line") => `(tactic| first | decide | (simp only [List.length_cons, List.length_nil, List.length_map, List.length_append]; first | decide | omega) | (refine sl_b ?_; simp only [List.length_cons, List.length_nil, List.length_map, List.length_append]; first | decide | omega))
local macro_rules | `(tactic| walk_at "s1") => `(tactic| first
  | ((with_reducible refine' k_var ?g0 ?_); (case g0 => exact rfl))
  | ((with_reducible refine' k_seqN ?g0 ?_); (case g0 => (try simp only [startD, g_cons, g_nil, List.map_cons, List.map_nil, List.length_cons, List.length_nil, Nat.reduceAdd, Nat.reduceSub, List.replicate_succ, List.replicate_zero, List.cons_append, List.nil_append, List.set_cons_zero, List.set_cons_succ, List.zip_cons_cons, List.zip_nil_right, List.zip_nil_left]); try exact rfl))
  | ((with_reducible refine' k_retN ?g0 ?_); (case g0 => (try simp only [startD, g_cons, g_nil, List.map_cons, List.map_nil, List.length_cons, List.length_nil, Nat.reduceAdd, Nat.reduceSub, List.replicate_succ, List.replicate_zero, List.cons_append, List.nil_append, List.set_cons_zero, List.set_cons_succ, List.zip_cons_cons, List.zip_nil_right, List.zip_nil_left]); try exact rfl))
  | (with_reducible refine k_nedev ?_)
  | (with_reducible refine k_ifS ?_)
  | (with_reducible refine k_next ?_)
  | (with_reducible refine k_drop ?_)
  | (with_reducible refine k_set ?_)
  | (with_reducible refine k_asg ?_)
  | (with_reducible refine k_sub ?_)
  | (with_reducible refine k_par ?_)
  | (with_reducible refine k_asP ?_)
  | (with_reducible refine k_par3 ?_)
  | (with_reducible refine k_asP3 ?_)
  | (with_reducible refine k_aug ?_)
  | (with_reducible refine k_for ?_)
  | (with_reducible refine k_B ?_)
  | (with_reducible refine k_asB ?_)
  | (with_reducible refine k_and ?_)
  | (with_reducible refine k_or ?_)
  | (with_reducible refine k_not ?_)
  | (with_reducible refine k_andV ?_)
  | (with_reducible refine k_orV ?_)
  | (with_reducible refine k_notV ?_)
  | (with_reducible refine k_chain ?_)
  | (with_reducible refine k_yes ?_)
  | (with_reducible refine k_if ?_)
  | (with_reducible refine k_c ?_)
  | (with_reducible refine k_op ?_)
  | (with_reducible refine k_nil ?_)
  | (with_reducible refine k_cons ?_)
  | (with_reducible refine k_tup ?_)
  | (with_reducible refine k_lst ?_)
  | (with_reducible refine k_call ?_)
  | (with_reducible refine k_fn ?_)
  | (with_reducible refine k_sl ?_)
  | (with_reducible refine k_app ?_)
  | (with_reducible refine k_pop ?_)
  | (with_reducible refine k_it ?_)
  | (with_reducible refine k_ik ?_)
  | (with_reducible refine k_il ?_)
  | (with_reducible refine k_ir ?_)
  | (with_reducible refine k_lc ?_)
  | (with_reducible refine k_addi ?_)
  | (with_reducible refine k_iaddi ?_)
  | (with_reducible refine k_eqi ?_)
  | (with_reducible refine k_nei ?_)
  | (with_reducible refine k_eqs ?_)
  | (with_reducible refine k_nes ?_)
  | (with_reducible refine k_eqb ?_)
  | (with_reducible refine k_neb ?_)
  | (with_reducible refine k_eqst ?_)
  | (with_reducible refine k_isN ?_)
  | (with_reducible refine k_notN ?_)
  | (with_reducible refine k_rsls ?_)
  | (with_reducible refine k_rsl ?_)
  | (with_reducible refine k_lent ?_)
  | (with_reducible refine k_i2 ?_)
  | (with_reducible refine k_toi ?_)
  | (with_reducible refine k_tob ?_)
  | (with_reducible refine k_itw ?_)
  | (with_reducible refine k_itt ?_)
  | (with_reducible refine k_lc2 ?_)
  | (with_reducible refine k_get ?_)
  | (with_reducible refine k_dc ?_)
  | ((with_reducible refine' k_ask ?g0 ?_); (case g0 => exact rfl))
  | ((with_reducible refine' k_ix ?g0 ?_); (case g0 => exact rfl))
  | ((with_reducible refine' k_lix ?g0 ?g1 ?_); (case g0 => walk_at "mem"); (case g1 => exact rfl))
  | ((with_reducible refine' k_int ?g0 ?_); (case g0 => first | exact trivial | exact cm2 | (show (0 : Int) < _; omega) | (show CMul _ _; exact .inl ⟨by omega, by omega⟩) | (show CMul _ _; exact .inr ⟨by omega, by omega⟩) | (show CDiv _ _; exact ⟨by omega, by omega⟩) | exact ⟨by decide, by decide⟩))
  | ((with_reducible refine' k_addt ?g0 ?_); (case g0 => walk_at "line"))
  | ((with_reducible refine' sl_s ?g0 ?_); (case g0 => walk_at "line"))
  | ((with_reducible refine' k_inT ?g0 ?g1 ?_); (case g0 => exact rfl); (case g1 => exact rfl))
  | ((with_reducible refine' k_ninT ?g0 ?g1 ?_); (case g0 => exact rfl); (case g1 => exact rfl))
  | ((with_reducible refine' k_inL ?g0 ?g1 ?g2 ?_); (case g0 => walk_at "mem"); (case g1 => exact rfl); (case g2 => exact rfl))
  | ((with_reducible refine' k_ninL ?g0 ?g1 ?g2 ?_); (case g0 => walk_at "mem"); (case g1 => exact rfl); (case g2 => exact rfl))
  | ((with_reducible refine' k_lenl ?g0 ?_); (case g0 => walk_at "mem"))
  | ((with_reducible refine' k_ninD ?g0 ?_); (case g0 => walk_at "mem"))
  | ((with_reducible refine' k_inD ?g0 ?_); (case g0 => walk_at "mem"))
  | ((with_reducible refine' k_rik ?g0 ?_); (case g0 => walk_at "mem"))
  | ((with_reducible refine' k_ril ?g0 ?_); (case g0 => walk_at "mem"))
  | ((with_reducible refine' k_isi ?g0 ?g1 ?_); (case g0 => exact rfl); (case g1 => exact rfl))
  | ((with_reducible refine' k_isl ?g0 ?_); (case g0 => walk_at "mem"))
  | ((with_reducible refine' k_rget ?g0 ?_); (case g0 => walk_at "mem"))
  | ((with_reducible refine' k_dix ?g0 ?g1 ?_); (case g0 => walk_at "mem"); (case g1 => assumption))
  | ((with_reducible refine' k_iaddl ?g0 ?g1 ?g2 ?_); (case g0 => walk_at "mem"); (case g1 => walk_at "mem"); (case g2 => walk_at "line"))
  | ((with_reducible refine' k_addl ?g0 ?g1 ?g2 ?_); (case g0 => walk_at "mem"); (case g1 => walk_at "mem"); (case g2 => walk_at "line"))
  | ((with_reducible refine' k_rall ?g0 ?g1 ?_); (case g0 => walk_at "mem"); (case g1 => exact rfl))
  | ((with_reducible refine' k_tot ?g0 ?_); (case g0 => walk_at "mem"))
  | ((with_reducible refine' k_t ?g0 ?_); (case g0 => exact rfl))
  | ((with_reducible refine' k_f ?g0 ?_); (case g0 => exact rfl)))
local macro_rules | `(tactic| walk_at "st") => `(tactic| (repeat (walk_at "s1")); try dsimp only)
local macro_rules | `(tactic| walk_at "c") => `(tactic| try simp only [inV_two, d_no, d_on, d_off, d_open, d_shut, d_no', d_on', d_off', d_open', d_shut', w_cold, w_cold', v_heat, reduceCtorEq, decide_true, decide_false, Bool.or_false, Bool.false_or, Bool.or_true, Bool.true_or, Bool.not_true, Bool.not_false, Bool.false_eq_true, Bool.true_eq_false, if_true, if_false, reduceIte])
local macro_rules | `(tactic| walk_at "len") => `(tactic| (intro ds M Q EX h; repeat (obtain ⟨x, h⟩ := h; try (subst x; exact rfl))))
theorem k_isE {K : PySem.W.Frag} {D a c : Addr} {b : Bool} {M : Mm} {Q : QD} (h : PySem.W.kitOne K (.ref D) (.ref c) = some b) (q : Q (.bl b) M) : rIsED K D a [.obj a, .obj c] M Q := ⟨rfl, _, b, rfl, h, q⟩
theorem k_isET {K : PySem.W.Frag} {D a : Addr} {n : String} {b : Bool} {M : Mm} {Q : QD} (h : PySem.W.kitOne K (.ref D) (.type n) = some b) (q : Q (.bl b) M) : rIsED K D a [.obj a, .ty n] M Q := ⟨rfl, _, b, rfl, h, q⟩
def spY (a : Str) (y : L3.D) (M : Mm) (Q : QD) : Prop := match y with
  | .str b => (b.length == 0) = false ∧ a.length + 2 ≤ sizeLine ∧ ∀ p, M p = none → Q (.obj p) (mset M p (.lst ((Txt.split a b).map D.str)))
  | _ => False
def spX (tb : DTE) (Γ : Ge) (x : L3.D) (M : Mm) (Q : QD) : Prop := match x with
  | .str a => tb Γ M fun y M2 => spY a y M2 Q
  | _ => False
def jnY (a : Str) (y : L3.D) (M : Mm) (Q : QD) : Prop := match y with
  | .obj c => ∃ ys : List Str, M c = some (.lst (ys.map D.str)) ∧ (ys.map (·.length)).sum + ys.length * a.length ≤ 16777216 ∧ Q (.str (Txt.join a ys)) M
  | _ => False
def jnX (tb : DTE) (Γ : Ge) (x : L3.D) (M : Mm) (Q : QD) : Prop := match x with
  | .str a => tb Γ M fun y M2 => jnY a y M2 Q
  | _ => False
def zpX (ds : List L3.D) (M : Mm) (R : Src → Mm → Prop) : Prop := match ds with
  | [.obj a, .obj b] => isL M (.obj a) ∧ isL M (.obj b) ∧ R (srcZ a b) M
  | _ => False
section
variable {ta tb : DTE} {tr : DTA} {Γ : Ge} {M : Mm} {Q : QD} {a b : Str}
theorem k_split (h : ta Γ M fun x M1 => spX tb Γ x M1 Q) : dSplit ta tb Γ M Q := h
theorem k_spX (h : tb Γ M fun y M2 => spY a y M2 Q) : spX tb Γ (.str a) M Q := h
theorem k_spY {l : List Str} (h1 : (b.length == 0) = false) (h2 : a.length + 2 ≤ sizeLine) (h3 : Txt.split a b = l) (q : ∀ p, M p = none → Q (.obj p) (mset M p (.lst (l.map D.str)))) : spY a (.str b) M Q := by
  subst h3
  exact ⟨h1, h2, q⟩
theorem k_join (h : ta Γ M fun x M1 => jnX tb Γ x M1 Q) : dJoin ta tb Γ M Q := h
theorem k_jnX (h : tb Γ M fun y M2 => jnY a y M2 Q) : jnX tb Γ (.str a) M Q := h
theorem k_jnY {c : Addr} (ys : List Str) {r : Str} (h1 : M c = some (.lst (ys.map D.str))) (h2 : (ys.map (·.length)).sum + ys.length * a.length ≤ 16777216) (h3 : Txt.join a ys = r) (q : Q (.str r) M) : jnY a (.obj c) M Q := by
  subst h3
  exact ⟨ys, h1, h2, q⟩
theorem k_izip {R : Src → Mm → Prop} (h : tr Γ M fun ds M1 => zpX ds M1 R) : dIZ tr Γ M R := h
theorem k_zpX {c e : Addr} {xs ys : List L3.D} {R : Src → Mm → Prop} (h1 : M c = some (.lst xs)) (h2 : M e = some (.lst ys)) (q : R (srcZ c e) M) : zpX [.obj c, .obj e] M R := k_isl h1 (k_isl h2 q)
end
def kinWords : List Str := ["book", "feelings", "house", "start", "stand", "run", "person", "deed", "word", "index", "unlike", "undo", "many", "text", "+"]
def kinMet : List (Str × Bool) := [("book", false), ("feelings", false), ("house", false), ("start", false), ("stand", false), ("run", false), ("person", false), ("deed", false), ("word", true), ("index", false), ("unlike", false), ("undo", false), ("many", false), ("text", false), ("+", true)]
/-- whether errors of the class D are of the class x -/
def Kd (K : PySem.W.Frag) (mg : Str → Option Value) (D : Addr) (x : Str) (b : Bool) : Prop := ∃ c, Con mg K x (.obj c) ∧ PySem.W.kitOne K (.ref D) (.ref c) = some b
section
variable {P : Program} {w : World} {K : PySem.W.Frag} {mg : Str → Option Value} {base : Heap}
abbrev s_law_kin : Stmt := topS 65
theorem sc_law_kin : FnScope ["_law_e", "_law_kinds_met", "_law_names", "_law_name", "_law_good"] ["_law_e"] (defScope s_law_kin) := ⟨rfl, rfl, rfl, by decide +kernel, rfl, by decide +kernel, by decide +kernel⟩
def sp_law_kin (a : Addr) : DSp := fun ds M Q _ => ds = [.obj a] ∧ Q (.str "word +") M
theorem ok_law_kin {D : Addr} {p : Addr × Obj} (eC : ExcC K D) (hz : Zc (.ref D) none p.2) (hf : ∃ vs, p.2.data = .fields vs) (K_InvalidBook : Kd K mg D "InvalidBook" false) (K_InvalidFeelings : Kd K mg D "InvalidFeelings" false) (K_InvalidHouse : Kd K mg D "InvalidHouse" false) (K_InvalidStart : Kd K mg D "InvalidStart" false) (K_InvalidStand : Kd K mg D "InvalidStand" false) (K_InvalidRun : Kd K mg D "InvalidRun" false) (K_InvalidPerson : Kd K mg D "InvalidPerson" false) (K_InvalidDeed : Kd K mg D "InvalidDeed" false) (K_InvalidWord : Kd K mg D "InvalidWord" true) (K_InvalidIndex : Kd K mg D "InvalidIndex" false) (K_Unlike : Kd K mg D "Unlike" false) (K_NothingToUndo : Kd K mg D "NothingToUndo" false) (K_TooMany : Kd K mg D "TooMany" false) (K_InvalidText : Kd K mg D "InvalidText" false) (kV : PySem.W.kitOne K (.ref D) (.type "ValueError") = some true) (m_isinstance : mg "isinstance" = none) (m_zip : mg "zip" = none) (m_ValueError : mg "ValueError" = none)
    {f : Addr} {fd : FuncData} (F : L2.Fun K "_law_kin" "_law_kin" s_law_kin f fd) : FnHp P w K mg base 1 f fd ["_law_e"] (lSp P w K (sp_law_kin p.1)) p := by
  obtain ⟨c0, k_InvalidBook, z0⟩ := K_InvalidBook
  obtain ⟨c1, k_InvalidFeelings, z1⟩ := K_InvalidFeelings
  obtain ⟨c2, k_InvalidHouse, z2⟩ := K_InvalidHouse
  obtain ⟨c3, k_InvalidStart, z3⟩ := K_InvalidStart
  obtain ⟨c4, k_InvalidStand, z4⟩ := K_InvalidStand
  obtain ⟨c5, k_InvalidRun, z5⟩ := K_InvalidRun
  obtain ⟨c6, k_InvalidPerson, z6⟩ := K_InvalidPerson
  obtain ⟨c7, k_InvalidDeed, z7⟩ := K_InvalidDeed
  obtain ⟨c8, k_InvalidWord, z8⟩ := K_InvalidWord
  obtain ⟨c9, k_InvalidIndex, z9⟩ := K_InvalidIndex
  obtain ⟨c10, k_Unlike, z10⟩ := K_Unlike
  obtain ⟨c11, k_NothingToUndo, z11⟩ := K_NothingToUndo
  obtain ⟨c12, k_TooMany, z12⟩ := K_TooMany
  obtain ⟨c13, k_InvalidText, z13⟩ := K_InvalidText
  refine fn_hp F sc_law_kin (fun vs H R E ⟨ds, M, Q, EX, t, mm, h, _⟩ => by rw [t.len, h.1]; rfl) fun cdv A fr s H vs R E hot hr ⟨ds, M, Q, EX, tt, mm, ⟨e, q⟩, f1, f2⟩ => ?_
  subst e
  have hpn : p ∈ (cxH CX0 P w K mg base ["_law_e", "_law_kinds_met", "_law_names", "_law_name", "_law_good"] "_law_kin" (defScope s_law_kin) f cdv A fr s H E p).pn := List.mem_cons_self
  refine ⟨_, (dss_cons (ds_set (i := 1) sc_law_kin.nd rfl (.inl rfl) (de_lst (da_cons (de_callB (call_isHD eC hz hf hpn) (by rfl) m_isinstance (by decide +kernel) (da_cons (dv 0) (da_cons (de_con k_InvalidBook (by rfl)) da_nil))) (da_cons (de_callB (call_isHD eC hz hf hpn) (by rfl) m_isinstance (by decide +kernel) (da_cons (dv 0) (da_cons (de_con k_InvalidFeelings (by rfl)) da_nil))) (da_cons (de_callB (call_isHD eC hz hf hpn) (by rfl) m_isinstance (by decide +kernel) (da_cons (dv 0) (da_cons (de_con k_InvalidHouse (by rfl)) da_nil))) da_nil)))))
        (dss_cons (ds_set (i := 1) sc_law_kin.nd rfl (.inl rfl) (de_op op_addD (dv 1) (de_lst (da_cons (de_callB (call_isHD eC hz hf hpn) (by rfl) m_isinstance (by decide +kernel) (da_cons (dv 0) (da_cons (de_con k_InvalidStart (by rfl)) da_nil))) (da_cons (de_callB (call_isHD eC hz hf hpn) (by rfl) m_isinstance (by decide +kernel) (da_cons (dv 0) (da_cons (de_con k_InvalidStand (by rfl)) da_nil))) (da_cons (de_callB (call_isHD eC hz hf hpn) (by rfl) m_isinstance (by decide +kernel) (da_cons (dv 0) (da_cons (de_con k_InvalidRun (by rfl)) da_nil))) da_nil))))))
        (dss_cons (ds_set (i := 1) sc_law_kin.nd rfl (.inl rfl) (de_op op_addD (dv 1) (de_lst (da_cons (de_callB (call_isHD eC hz hf hpn) (by rfl) m_isinstance (by decide +kernel) (da_cons (dv 0) (da_cons (de_con k_InvalidPerson (by rfl)) da_nil))) (da_cons (de_callB (call_isHD eC hz hf hpn) (by rfl) m_isinstance (by decide +kernel) (da_cons (dv 0) (da_cons (de_con k_InvalidDeed (by rfl)) da_nil))) (da_cons (de_callB (call_isHD eC hz hf hpn) (by rfl) m_isinstance (by decide +kernel) (da_cons (dv 0) (da_cons (de_con k_InvalidWord (by rfl)) da_nil))) da_nil))))))
        (dss_cons (ds_set (i := 1) sc_law_kin.nd rfl (.inl rfl) (de_op op_addD (dv 1) (de_lst (da_cons (de_callB (call_isHD eC hz hf hpn) (by rfl) m_isinstance (by decide +kernel) (da_cons (dv 0) (da_cons (de_con k_InvalidIndex (by rfl)) da_nil))) (da_cons (de_callB (call_isHD eC hz hf hpn) (by rfl) m_isinstance (by decide +kernel) (da_cons (dv 0) (da_cons (de_con k_Unlike (by rfl)) da_nil))) (da_cons (de_callB (call_isHD eC hz hf hpn) (by rfl) m_isinstance (by decide +kernel) (da_cons (dv 0) (da_cons (de_con k_NothingToUndo (by rfl)) da_nil))) da_nil))))))
        (dss_cons (ds_set (i := 1) sc_law_kin.nd rfl (.inl rfl) (de_op op_addD (dv 1) (de_lst (da_cons (de_callB (call_isHD eC hz hf hpn) (by rfl) m_isinstance (by decide +kernel) (da_cons (dv 0) (da_cons (de_con k_TooMany (by rfl)) da_nil))) (da_cons (de_callB (call_isHD eC hz hf hpn) (by rfl) m_isinstance (by decide +kernel) (da_cons (dv 0) (da_cons (de_con k_InvalidText (by rfl)) da_nil))) (da_cons (de_callB (call_isHD eC hz hf hpn) (by rfl) m_isinstance (by decide +kernel) (da_cons (dv 0) (da_cons (de_tyn (n := "ValueError") (by rfl) m_ValueError (by decide +kernel)) da_nil))) da_nil))))))
        (dss_cons (ds_set (i := 2) sc_law_kin.nd rfl (.inl rfl) de_str)
        (dss_one (ds_ret (de_join de_str (de_lcH (own := [("_law_name", 3), ("_law_good", 4)]) hot hpn sc_law_kin.nd (di_zipH (by rfl) m_zip (da_cons (de_split (dv 2) de_str) (da_cons (dv 1) da_nil))) (blkOk_by (own := [("_law_name", 3), ("_law_good", 4)]) (N := ["_law_e", "_law_kinds_met", "_law_names", "_law_name", "_law_good"]) (sc := defScope s_law_kin) (by decide +kernel)) (fun _ _ _ _ _ => (dg_tupH (is := [3, 4]) (pgp_tup hot (pgs_cons (pg_name (i := 3) sc_law_kin.nd rfl (Or.inl rfl)) (pgs_cons (pg_name (i := 4) sc_law_kin.nd rfl (Or.inl rfl)) pgs_nil))) rfl)) (fun _ _ _ _ _ => (dts_one (dt_val (dv 4)))) (fun _ _ _ _ _ => (dv 3)))))))))))), startD ["_law_e", "_law_kinds_met", "_law_names", "_law_name", "_law_good"] [.obj p.1], M, { nx := fun _ M' => False, rt := fin Q }, start_ok tt, mm, ?_, fun _ _ _ _ z => z.elim, fun d M' v H' ⟨M0, l0, q⟩ t1 m1 r1 => f1 _ M0 _ H' q t1 (m1.weak l0) r1, fun _ _ _ _ z => z.elim, fun _ _ _ _ z => z.elim⟩
  walk_at "st"
  refine k_isE z0 ?_
  walk_at "st"
  refine k_isE z1 ?_
  walk_at "st"
  refine k_isE z2 ?_
  walk_at "st"
  intro r0 e0
  walk_at "st"
  refine k_isE z3 ?_
  walk_at "st"
  refine k_isE z4 ?_
  walk_at "st"
  refine k_isE z5 ?_
  walk_at "st"
  intro t1 g1
  have n1 : r0 ≠ t1 := mne mset_same g1
  walk_at "st"
  intro r1 e1
  walk_at "st"
  refine k_isE z6 ?_
  walk_at "st"
  refine k_isE z7 ?_
  walk_at "st"
  refine k_isE z8 ?_
  walk_at "st"
  intro t2 g2
  have n2 : r1 ≠ t2 := mne mset_same g2
  walk_at "st"
  intro r2 e2
  walk_at "st"
  refine k_isE z9 ?_
  walk_at "st"
  refine k_isE z10 ?_
  walk_at "st"
  refine k_isE z11 ?_
  walk_at "st"
  intro t3 g3
  have n3 : r2 ≠ t3 := mne mset_same g3
  walk_at "st"
  intro r3 e3
  walk_at "st"
  refine k_isE z12 ?_
  walk_at "st"
  refine k_isE z13 ?_
  walk_at "st"
  refine k_isET kV ?_
  walk_at "st"
  intro t4 g4
  have n4 : r3 ≠ t4 := mne mset_same g4
  walk_at "st"
  intro r4 e4
  walk_at "st"
  refine k_join (k_c (k_jnX (k_lc (k_izip (k_cons (k_split ?_))))))
  walk_at "st"
  refine k_spX ?_
  walk_at "st"
  refine k_spY (l := kinWords) rfl (by decide) (by decide +kernel) fun c hc => ?_
  walk_at "st"
  have nc : r4 ≠ c := mne mset_same hc
  refine k_zpX mset_same ((mset_ne nc).trans mset_same) ?_
  refine lc_map kinMet (fun z => .tup [.str z.1, .bl z.2]) (fun z => if z.2 = true then some (.str z.1) else none) (fun l acc hl => ?_) (by decide) (fun l acc z hl hz R hR => ?_) fun l hl => ?_
  · have n1 : c ≠ l := mne mset_same hl
    have n2 : r4 ≠ l := mne ((mset_ne nc).trans mset_same) hl
    exact ⟨_, _, (mset_ne n1).trans mset_same, (mset_ne n2).trans ((mset_ne nc).trans mset_same), rfl, rfl⟩
  · refine k_ask rfl ⟨by simp, ?_⟩
    obtain ⟨x, b⟩ := z
    walk_at "st"
    cases b with
    | true =>
      refine k_t rfl ?_
      walk_at "st"
      exact hR
    | false =>
      refine k_f rfl ?_
      exact hR
  · refine k_jnY (a := " ") (r := "word +") ["word", "+"] mset_same (by decide) (by decide +kernel) ?_
    exact ⟨M, ((((((((((Le.new e0).tr (Le.new g1)).tr (Le.new e1)).tr (Le.new g2)).tr (Le.new e2)).tr (Le.new g3)).tr (Le.new e3)).tr (Le.new g4)).tr (Le.new e4)).tr (Le.new hc)).tr (Le.new hl), q⟩
end
end L3

/-! try with several clauses «except X as n», each of which only stores; a lambda handed to a def, its error's context told. -/
namespace L3
open PySem PySem.Spec PyProof.Rows L2
/-- the clauses, one after the other; i: the slot of the error's name -/
def wAll (K : PySem.W.Frag) (i : Nat) (nx : L2.St → Hp → Prop) : List (Value × (Addr → Value → Option Addr → L2.TS)) → WX
  | [] => fun _ _ _ _ => False
  | (c, t) :: r => fun cls d σ H => ∃ b, PySem.W.exmOne K cls c = some b ∧ (b = true → ∀ a, H a = none → i < σ.length → t a cls d { nx := fun σ' H' => nx (σ'.set i none) H', rt := fun _ _ => False } (σ.set i (some (.ref a))) H) ∧ (b = false → wAll K i nx r cls d σ H)
inductive ClOk (X : Cx) (n : Str) : List ExceptHandler → List (Value × (Addr → Value → Option Addr → L2.TS)) → Prop
  | nil : ClOk X n [] []
  | cons {x : Str} {c : Value} {t : Addr → Value → Option Addr → L2.TS} {b₀ : Stmt} {sts : List Stmt} {p1 p2 : Pos} {hds : List ExceptHandler} {l : List (Value × (Addr → Value → Option Addr → L2.TS))} (hc : Names X x c)
      (run : ∀ (a : Addr) (oe : Obj) (cls : Value) (d : Option Addr) (pn : List (Addr × Obj)), L2N.Zn cls d oe → (∃ vs, oe.data = .fields vs) → PSs (X.suite a ((a, oe) :: pn)) (b₀ :: sts) (t a cls d)) (r : ClOk X n hds l) :
      ClOk X n (.ExceptHandler (some (.Name x p1)) (some n) (b₀ :: sts) p2 :: hds) ((c, t) :: l)
section
variable {X : Cx} {n : Str} {i : Nat} {body : List Stmt} {h₀ : ExceptHandler} {hds : List ExceptHandler} {l : List (Value × (Addr → Value → Option Addr → L2.TS))} {pos : Pos} {tb : WX → L2.TS}
theorem ps_try_all (hs : X.stack = X.env :: X.outer) (hf : X.env.frame = some X.env.locals) (hN : X.N.Nodup) (hi : X.N[i]? = some n) (hln : X.env.kindOf n = some .local)
    (hb : ∀ (W : WX) (pn : List (Addr × Obj)) (xe : Value → Shared → Prop), L2N.Takes (X.tr pn xe) W → PSs (X.tr pn xe) body (tb W)) (hh : ClOk X n (h₀ :: hds) l) : PS X (.Try body (h₀ :: hds) [] [] pos) (fun Dn σ H => tb (wAll X.K i Dn.nx l) Dn σ H) := by
  refine ⟨fun pins s σ H Dn I h => wpAny_Try_except ?_⟩
  have ok := I.ok
  have fr : X.A.frames = some (X.env :: X.outer) := by rw [ok.frames, hs]
  refine wpAny_mono ((hb (wAll X.K i Dn.nx l) (X.pn ++ pins) (fun e s₁ => wpAny (model X.prog X.w) X.A (noteFrame e X.env) (fun _ s₂ => wpAny (model X.prog X.w) X.A (setFlight e none) (fun _ s₃ => wpAny (model X.prog X.w) X.A (handleBy e X.env (h₀ :: hds)) (SP X pins Dn) X.xe s₃) X.xe s₂) X.xe s₁) (fun u s' xx => ?_)).run [] s σ H Dn (I.toTry _) h) (fun f s1 z => ?_) fun _ _ z => z
  · obtain ⟨a, B, sI, pins', σ', H', cls, d, rfl, J', nb, up, sky, na, os, ag, w⟩ := xx
    have J := J'.ofTry ok; have J : Inv X pins σ' H' sI := J
    show wpAny (model X.prog X.w) X.A (noteFrame (.ref a) X.env) _ _ _; refine L2N.Sky.land L2N.Zn.steady fr hf (show Sky B (X.env :: X.outer) a (L2N.Zn cls d) X.env.locals s'.heap from by rw [← hs]; exact sky) fun h3 fl3 up3 => ?_
    have J3 : Inv X pins σ' H' { s' with heap := h3 } := J.landed nb fl3.1 (up.trans up3) os ag; rcases fl3.there with ⟨oe3, vs3, he3, hz3, hd3⟩
    have nfr : a ∉ frs (X.env :: X.outer) := fun hm => by
      obtain ⟨_, o', e', hnf⟩ := fl3.2.2.1.mem hm
      rw [he3] at e'; cases e'
      exact hnf _ hd3
    have nL : a ≠ X.env.locals := fun z => nfr (List.mem_filterMap.mpr ⟨X.env, List.mem_cons_self, by rw [hf, z]⟩); have nF : a ∉ X.fs := fun hm => by
      obtain ⟨e, he, q⟩ := List.mem_filterMap.mp hm; exact nfr (List.mem_filterMap.mpr ⟨e, List.mem_cons_of_mem _ he, q⟩)
    have S3 := J3.suite he3 hd3 na nL nF; have go : ∀ {hds' : List ExceptHandler} {l' : List (Value × (Addr → Value → Option Addr → L2.TS))}, ClOk X n hds' l' → wAll X.K i Dn.nx l' cls d σ' H' → wpAny (model X.prog X.w) X.A (handleBy (.ref a) X.env hds') (SP X pins Dn) X.xe { s' with heap := h3 } := by
      intro hds' l' hk; induction hk with
      | nil => exact fun w => w.elim
      | @cons x c t b₀ sts p1 p2 hds2 l2 hc run r ih =>
        rintro ⟨b, hb1, hyes, hno⟩
        refine wpAny_handleBy_cons (codeAny_handlers_test ?_) (fun q => by cases q)
        have LM := PySem.W.exm_one (M := model X.prog X.w) J3.kIn (fun A Q E s k q => wpAny_typeOf_ref (k _ _ he3) (by rw [hz3.1]; exact q)) hb1
        have test : ∀ {Q : Value → Shared → Prop} {E : Value → Shared → Prop}, Q c { s' with heap := h3 } → wpAny (model X.prog X.w) (X.A.mark (some (.ref a))) (eval (.Name x p1) X.env) Q E { s' with heap := h3 } := fun {Q E} q => by
          obtain ⟨hg, hdb, hm | ⟨hm, hv, hn⟩⟩ := hc <;> first | exact ld_glob (X := X.suite a ((a, oe3) :: (X.pn ++ pins))) S3 hg hm q hdb | exact ld_blt (X := X.suite a ((a, oe3) :: (X.pn ++ pins))) S3 hg hm hv q hn hdb
        refine test (LM.here ?_)
        cases b with
        | false =>
          show wpAny _ X.A (handleBy (.ref a) X.env hds2) _ _ _; exact ih (hno rfl)
        | true =>
          refine codeAny_handlers_suite_as (HandSPX.lands_againZ fl3 fun h4 fl4 up4 => ?_)
          have J4 : Inv X pins σ' H' { s' with heap := h4 } := J.landed nb fl4.1 ((up.trans up3).trans up4) os ag; rcases fl4.there with ⟨oe4, vs4, he4, hz4, hd4⟩
          refine store_ok (X := X.suite a ((a, oe4) :: (X.pn ++ pins))) (v := .ref a) (J4.suite he4 hd4 na nL nF) hN hi (.inl hln) rfl (fun s5 S5 => ?_) (.inr hln)
          refine wpAny_mono ((run a oe4 cls d (X.pn ++ pins) hz4 ⟨_, hd4⟩).run [] s5 _ H' _ S5 (hyes rfl a na (by rw [J.len]; exact (List.getElem?_eq_some_iff.mp hi).1))) (fun f s6 z => ?_) (fun _ _ z => z.elim)
          cases f with
          | next =>
            obtain ⟨σ6, H6, S6, q6⟩ := z
            exact gone_ok (S6.unsuite ok) hN hi hln fun s7 J7 => ⟨_, _, J7, q6⟩
          | brk => obtain ⟨_, _, _, q⟩ := z; exact q.elim
          | cont => obtain ⟨_, _, _, q⟩ := z; exact q.elim
          | ret u => obtain ⟨_, _, _, _, _, q⟩ := z; exact q.elim
    exact go hh w
  · cases f with
    | next => obtain ⟨σ', H', J', q⟩ := z; exact wpAny_execs_nil ⟨σ', H', J'.ofTry ok, q⟩
    | brk => obtain ⟨σ', H', J', q⟩ := z; exact ⟨σ', H', J'.ofTry ok, q⟩
    | cont => obtain ⟨σ', H', J', q⟩ := z; exact ⟨σ', H', J'.ofTry ok, q⟩
    | ret u => obtain ⟨v, σ', H', J', r, q⟩ := z; exact ⟨v, σ', H', J'.ofTry ok, r, q⟩
end
/-! ### a lambda handed to a def -/
section
open LamX
variable {X : Cx} {pins : List (Addr × Obj)} {σ : L2.St} {s : Shared} {H : Hp}
/-- the context of the lambda's body: what leaves it bears the context None -/
abbrev lamN (X : Cx) (A : Around) (fr : List Env) (s : Shared) (H : Hp) (E : XK) (scope : Scope) (f c' : Addr) : Cx := (lamCx X A fr s H E scope f c').tr [] fun e s' =>
  wpAny (model X.prog X.w) (A.deeper (lamEnv X scope s.heap.objs.size f c')) (leaving (lamEnv X scope s.heap.objs.size f c') e) (fun _ s'' => L2N.CX X.prog X.w fr H s E e s'') (fun e' s'' => L2N.CX X.prog X.w fr H s E e' s'') s'
/-- the context of the def that got the lambda -/
abbrev gotCx (X : Cx) (Ng : List Str) (qg : Str) (sg : Scope) (g : Addr) (cdg : Value) (s : Shared) (H : Hp) : Cx := cxOf L2.CX0 X.prog X.w X.K X.mg X.base Ng qg sg g cdg X.A X.stack s H C8.E0
theorem pe_actN {Ng : List Str} {qg : Str} {sg : Scope} {g f c' : Addr} {cdg pm ctv : Value} {params : Arguments} {body : Expr} {scope : Scope} {k i : Nat} {a : Str} {pn : List (Addr × Obj)} {xe : Value → Shared → Prop} {W : WX} {E : XK} {tb : TE} {p1 p2 : Pos}
    (I : Inv X pins σ H s) (L : LamS X.env.scope scope) (hf : s.heap.get? f = some (PySem.W.kla_obj "<lambda>" (X.env.qual ++ "<lambda>") params body scope (cloFrom X.env.cells scope.names []) pm c' ctv)) (hfn : H f = none) (hfr : f ∉ frs X.stack) (hbind : bindArgs (PySem.W.kla_fn "<lambda>" (X.env.qual ++ "<lambda>") params body scope (cloFrom X.env.cells scope.names []) pm (.ref c') ctv) ⟨[], []⟩ = pure []) (tk : L2N.Takes ((gotCx X Ng qg sg g cdg s H).tr pn xe) W) (hW : ∀ cls d σ' H', E cls d H' → W cls d σ' H') (hr : Room (k + 1) (X.A.deeper (envOfC qg sg s.heap.objs.size g cdg)))
    (hbody : ∀ (A : Around) (fr : List Env) (s : Shared) (H : Hp), Room k (A.deeper (lamEnv X scope s.heap.objs.size f c')) → PE (lamN X A fr s H E scope f c') body tb)
    (hN : Ng[i]? = some a) (hv : Vis sg a) (hd : (a == ("__debug__" : Str)) = false := by decide) (hcd : (a == ("__classdict__" : Str)) = false := by decide) : PE ((gotCx X Ng qg sg g cdg s H).tr pn xe) (.Call (.Name a p1) [] [] p2) (fun σZ HZ Q => σZ[i]? = some (some (.ref f)) ∧ HZ c' = some (CodeO c' (X.env.qual ++ "<lambda>")) ∧ tb σ HZ Q) := by
  refine ⟨fun pZ sZ σZ HZ Q IZ ⟨hs, hc, ht⟩ => wpAny_Call_Name_kw (thn ((pe_var (pos := p1) (i := i) hN hv hd hcd).run pZ sZ σZ HZ (fun v H1 => v = .ref f ∧ H1 = HZ) IZ ⟨.ref f, hs, rfl, rfl⟩) fun u s1 ⟨v, H1, I1, r1, ev, eH⟩ => ?_)⟩
  subst ev; rw [eH] at I1
  have eu : u = Value.ref f := r1; subst eu
  have of1 := I1.base.keep f _ hf hfn hfr (fun z => nomatch (show f ∈ ([] : List Addr) from z))
  refine PySem.W.callWith_F0 ⟨_, _, _, _, of1⟩ ?_; rcases I1.hok c' _ hc with ⟨⟨oc, vs, t, hoc, hdc, hvc⟩, _, _⟩
  have rc : codeAny (model X.prog X.w) (X.A.deeper (envOfC qg sg s.heap.objs.size g cdg)) (.call (.ref f) ⟨[], []⟩) (CR (L2N.CX X.prog X.w) (envOfC qg sg s.heap.objs.size g cdg :: X.stack) X.prog X.w HZ s1 Q E) s1 := by
    refine PySem.W.kla_callFunE hr.depth of1 rfl L.co L.gen rfl ⟨c', oc, vs, t, rfl, hoc, hdc, hvc⟩ ?_; rw [hbind]; refine wpAny_pure (wpAny_newFunctionEnv (fun y hy => (L.own y hy).2) (fun y hy => absurd hy (by simp)) (fun h₁ hns hsb => ⟨I1.nolimit.fresh _ hsb, ?_⟩) L.kind)
    show codeAny _ _ (.expr body (lamEnv X scope s1.heap.objs.size f c')) _ _; have kp : ∀ b o, s1.heap.get? b = some o → h₁.get? b = some o := fun b o e => hsb.extBut b o (Nat.ne_of_lt (Heap.lt_size e)) (Heap.get?_push_of_some _ e); have J0 : Inv (lamCx X (X.A.deeper (envOfC qg sg s.heap.objs.size g cdg)) (envOfC qg sg s.heap.objs.size g cdg :: X.stack) s1 HZ E scope f c') [] σ HZ { s1 with heap := h₁, toks := s1.toks + ([] : List (Str × Value)).length } := lam_start2 I L I1.env0 hr.hd I1.base hns kp
    have J : Inv (lamN X (X.A.deeper (envOfC qg sg s.heap.objs.size g cdg)) (envOfC qg sg s.heap.objs.size g cdg :: X.stack) s1 HZ E scope f c') [] σ HZ { s1 with heap := h₁, toks := s1.toks + ([] : List (Str × Value)).length } := J0.toTry _
    refine PySem.W.kla_codeExpr (wpAny_mono ((hbody _ _ s1 HZ (hr.deeper _)).run [] _ _ HZ Q J ht) (fun v s' ⟨w', H', J', rv, q⟩ => ?_) fun e s' hq => hq)
    exact ⟨_, _, J'.os, J'.bare, J'.base, J'.hok, rv, q⟩
  have hx := L2N.passes_call (X := (gotCx X Ng qg sg g cdg s H).tr pn xe) tk hW
  refine wpAny_call (codeAny_mono rc fun r s3 hq => ?_)
  cases r with
  | error e => exact hx pZ σZ HZ s1 e s3 I1 hq
  | ok fl => cases fl with
    | ret u => exact I1.after hq
    | next => exact hq.elim
    | brk => exact hq.elim
    | cont => exact hq.elim
/-- the def that calls what it got -/
def GivesN (X : Cx) (Ng : List Str) (x : Str) (sg : Scope) (g : Addr) (cdg : Value) (bg : List Stmt) (a : Str) (q : Str) (TT : (XK → Hp → VK → Prop) → Hp → VK → Prop) : Prop :=
  ∀ (f c' : Addr) (s : Shared) (H : Hp) (Q : VK) (tl : XK → Hp → VK → Prop), Room 2 (X.A.deeper (envOfC x sg s.heap.objs.size g cdg)) →
    (∀ (W : WX) (pn : List (Addr × Obj)) (xe : Value → Shared → Prop) (E : XK) (p1 p2 : Pos), L2N.Takes ((gotCx X Ng x sg g cdg s H).tr pn xe) W → (∀ cls d σ' H', E cls d H' → W cls d σ' H') →
      PE ((gotCx X Ng x sg g cdg s H).tr pn xe) (.Call (.Name a p1) [] [] p2) (fun σZ HZ Q => σZ[0]? = some (some (.ref f)) ∧ HZ c' = some (CodeO c' q) ∧ tl E HZ Q)) →
    H c' = some (CodeO c' q) → TT tl H Q → ∃ t, PSs (gotCx X Ng x sg g cdg s H).nox bg t ∧ t { nx := fun _ H' => Q .non H', rt := Q } (L2.start Ng [.ref f]) H
theorem pe_lamN {T : List (Addr × Str)} {TT : (XK → Hp → VK → Prop) → Hp → VK → Prop} {x a : Str} {g c P : Addr} {k : Nat} {pg : Arguments} {bg : List Stmt} {sg : Scope} {dV kV doc pm cdv ct oc : Value} {an od : Option Addr} {osl : Array (Option Value)} {Ng : List Str}
    {params : Arguments} {body : Expr} {scope : Scope} {t : XK → TE} {p lpos pos : Pos} (hg : Gl X x) (hm : X.mg x = some (.ref g)) (hk : PySem.W.keepIn X.K (.ref g) = true) (lk : X.K.lookup g = some ⟨oc, od, .func (PySem.W.fnOf x x pg bg sg dV kV doc pm an cdv ct), osl⟩) (hcg : PySem.W.codeIn X.K cdv x = true) (hb : L2.Binds X.K (PySem.W.fnOf x x pg bg sg dV kV doc pm an cdv ct) [a] []) (Sg : FnScope Ng [a] sg) (hNg : Ng[0]? = some a) (hva : Vis sg a) (hG : GivesN X Ng x sg g cdv bg a (X.env.qual ++ "<lambda>") TT) (TB : TabB X.base X.mg c P) (hcode : X.env.code = .ref c) (hmT : (P, X.env.qual ++ "<lambda>") ∈ T) (hu : ∀ p ∈ T, p.1 = P → p.2 = X.env.qual ++ "<lambda>") (hr : Room (k + 2) X.A) (hk2 : 2 ≤ k + 1) (L : LamS X.env.scope scope)
    (hdef : defaultsOf params X.env = ([], [])) (hbind : ∀ (q : Str) (cl : List (Str × Addr)) (pm cv ctv : Value), bindArgs (PySem.W.kla_fn "<lambda>" q params body scope cl pm cv ctv) ⟨[], []⟩ = pure [])
    (hbody : ∀ (A : Around) (fr : List Env) (s : Shared) (H : Hp) (E : XK) (f c' : Addr), Room k (A.deeper (lamEnv X scope s.heap.objs.size f c')) → PE (lamN X A fr s H E scope f c') body (t E))
    (hdb : (x == ("__debug__" : Str)) = false := by decide) (hd : (a == ("__debug__" : Str)) = false := by decide) (hcd : (a == ("__classdict__" : Str)) = false := by decide) : PE X (.Call (.Name x p) [.Lambda params body scope lpos] [] pos) (tLam T TT t) := by
  refine ⟨fun pins s σ H Q I ⟨hT, h⟩ => wpAny_Call_Name_kw (ld_glob I hg hm ?_ hdb)⟩
  refine PySem.W.callWith_K (h₀ := X.base) I.ok.mod.kin hk ?_ (by rfl) (by rfl); show wpAny _ _ (spliced ((false, eval (.Lambda params body scope lpos) X.env) :: backTo pos (starEach [] X.env))) _ _ s; refine Calls.spliced_cons (lam_make2 I TB hcode hmT hu hT hdef (L.has I.ok) fun f c' pm' ctv H1 s' I1 eN T1 hf hfn hfr hco => Calls.spliced_nil ⟨I1.kIn, ?_⟩)
  have rc : codeAny (model X.prog X.w) X.A (.call (.ref g) ⟨[.ref f], []⟩) (CR L2.CX0 X.stack X.prog X.w H1 s' Q C8.E0) s' := by
    refine run_ofS (N := Ng) (ps := [a]) (vs := [.ref f]) (us := [.ref f]) lk hcg Sg hr I1.env0 (hb s' [.ref f] I1.kIn rfl) (.cons rfl .nil) rfl fun hr' => ?_
    obtain ⟨t', ht', hq'⟩ := hG f c' s' H1 Q (fun E H' Q' => t E σ H' Q') (hr'.mono hk2) (fun W pn xe E p1 p2 tk hW => pe_actN (i := 0) I1 L hf hfn hfr (hbind _ _ _ _ _) tk hW hr' (fun A fr s H hr2 => hbody A fr s H E f c' hr2) hNg hva hd hcd) hco (h H1 eN T1)
    exact ⟨t', ht'.nox, hq'⟩
  refine wpAny_call (codeAny_mono rc fun r _ hq => ?_)
  cases r with
  | error e => exact absurd (show False from hq) id
  | ok fl => cases fl with
    | ret u => exact I1.after hq
    | next => exact hq.elim
    | brk => exact hq.elim
    | cont => exact hq.elim
end
end L3

/-! The law's own _law_try, where what it calls raises InvalidWord. -/
namespace L3
open PySem PySem.Spec PyProof.Rows L2 HotX L2H LamX
/-- what _law_kin and the clauses ask of the errors of the class D -/
structure KinF (K : PySem.W.Frag) (mg : Str → Option Value) (D : Addr) : Prop where
  eC : ExcC K D
  kInvalidBook : Kd K mg D "InvalidBook" false
  kInvalidFeelings : Kd K mg D "InvalidFeelings" false
  kInvalidHouse : Kd K mg D "InvalidHouse" false
  kInvalidStart : Kd K mg D "InvalidStart" false
  kInvalidStand : Kd K mg D "InvalidStand" false
  kInvalidRun : Kd K mg D "InvalidRun" false
  kInvalidPerson : Kd K mg D "InvalidPerson" false
  kInvalidDeed : Kd K mg D "InvalidDeed" false
  kInvalidWord : Kd K mg D "InvalidWord" true
  kInvalidIndex : Kd K mg D "InvalidIndex" false
  kUnlike : Kd K mg D "Unlike" false
  kNothingToUndo : Kd K mg D "NothingToUndo" false
  kTooMany : Kd K mg D "TooMany" false
  kInvalidText : Kd K mg D "InvalidText" false
  kV : PySem.W.kitOne K (.ref D) (.type "ValueError") = some true
  m_isinstance : mg "isinstance" = none
  m_zip : mg "zip" = none
  m_ValueError : mg "ValueError" = none
  kin : ∃ f fd, L2.Fun K "_law_kin" "_law_kin" s_law_kin f fd ∧ mg "_law_kin" = some (.ref f) ∧ Binds K fd ["_law_e"] []
  cls : ∃ TM IT FE : Addr, mg "TooMany" = some (.ref TM) ∧ mg "InvalidText" = some (.ref IT) ∧ mg "FeudError" = some (.ref FE) ∧ PySem.W.exmOne K (.ref D) (.ref TM) = some false ∧ PySem.W.exmOne K (.ref D) (.ref IT) = some false ∧ PySem.W.exmOne K (.ref D) (.ref FE) = some true
abbrev s_law_try : Stmt := topS 66
theorem sc_law_try : FnScope ["_law_call_so", "_law_found", "_law_e"] ["_law_call_so"] (defScope s_law_try) := ⟨rfl, rfl, rfl, by decide +kernel, rfl, by decide +kernel, by decide +kernel⟩
def lawHds : List Stmt → List ExceptHandler
  | [_, .Try _ h _ _ _, _] => h
  | _ => []
def hdBody : List ExceptHandler → List Stmt
  | [_, _, .ExceptHandler _ _ b _] => b
  | _ => []
def tryBody : List Stmt → List Stmt
  | [_, .Try b _ _ _ _, _] => b
  | _ => []
theorem pe_quiet {X : Cx} {e : Expr} {t : TE} (h : PE X e t) : PE X e (fun σ H _ => t σ H fun _ _ => False) := ⟨fun pins s σ H Q I q => wpAny_mono (h.run pins s σ H _ I q) (fun _ _ ⟨_, _, _, _, z⟩ => z.elim) fun _ _ z => z⟩
/-- the lambda raises D; the answer is «word +» -/
def TTry (P : Program) (w : World) (K : PySem.W.Frag) (D : Addr) : (XK → Hp → VK → Prop) → Hp → VK → Prop := fun tl H Q =>
  tl (fun cls d H' => cls = .ref D ∧ d = none ∧ ∃ M, MOk P w K M H' ∧ ∀ H'', TS H' H'' → MOk P w K M H'' → Q (.str "word +") H'') H fun _ _ => False
def tKin (P : Program) (w : World) (K : PySem.W.Frag) (D : Addr) (a : Addr) (cls : Value) (d : Option Addr) : L2.TS := fun Dn σ H => cls = .ref D ∧ d = none ∧ ∃ M, MOk P w K M H ∧ σ[2]? = some (some (.ref a)) ∧ ∀ H'', TS H H'' → MOk P w K M H'' → Dn.nx (σ.set 1 (some (.str "word +"))) H''
theorem try_gives {X : Cx} {D g : Addr} {cdg : Value} {q : Str} (Z : KinF X.K X.mg D) : GivesN X ["_law_call_so", "_law_found", "_law_e"] "_law_try" (defScope s_law_try) g cdg (defBody s_law_try) "_law_call_so" q (TTry X.prog X.w X.K D) := by
  intro f c' s H Q tl hr act hc h
  obtain ⟨TM, IT, FE, m1, m2, m3, x1, x2, x3⟩ := Z.cls
  obtain ⟨fk, fdk, Fk, mk, bk⟩ := Z.kin
  have hN : (["_law_call_so", "_law_found", "_law_e"] : List Str).Nodup := sc_law_try.nd
  have go : ∀ (a : Addr) (oe : Obj) (cls : Value) (d : Option Addr) (pn : List (Addr × Obj)), L2N.Zn cls d oe → (∃ vs, oe.data = .fields vs) → PSs ((gotCx X ["_law_call_so", "_law_found", "_law_e"] "_law_try" (defScope s_law_try) g cdg s H).nox.suite a ((a, oe) :: pn)) (hdBody (lawHds (defBody s_law_try))) (tKin X.prog X.w X.K D a cls d) := by
    intro a oe cls d pn hz hf
    refine ⟨fun pins s1 σ H1 Dn I ⟨e1, e2, M, mm, e3, q⟩ => ?_⟩
    subst e1 e2
    have F := ok_law_kin (P := X.prog) (w := X.w) (base := X.base) (p := (a, oe)) Z.eC hz.zc hf Z.kInvalidBook Z.kInvalidFeelings Z.kInvalidHouse Z.kInvalidStart Z.kInvalidStand Z.kInvalidRun Z.kInvalidPerson Z.kInvalidDeed Z.kInvalidWord Z.kInvalidIndex Z.kUnlike Z.kNothingToUndo Z.kTooMany Z.kInvalidText Z.kV Z.m_isinstance Z.m_zip Z.m_ValueError Fk
    have hot : Hot1 ((gotCx X ["_law_call_so", "_law_found", "_law_e"] "_law_try" (defScope s_law_try) g cdg s H).nox.suite a ((a, oe) :: pn)).A (a, oe) := by
      obtain ⟨vs, e⟩ := hf
      exact ⟨rfl, vs, e, hz.2.2 vs e⟩
    have st : PSs ((gotCx X ["_law_call_so", "_law_found", "_law_e"] "_law_try" (defScope s_law_try) g cdg s H).nox.suite a ((a, oe) :: pn)) (hdBody (lawHds (defBody s_law_try))) _ := pss_one (ps_set (X := (gotCx X ["_law_call_so", "_law_found", "_law_e"] "_law_try" (defScope s_law_try) g cdg s H).nox.suite a ((a, oe) :: pn)) (i := 1) (x := "_law_found") hN rfl (.inl rfl)
      (pe_hp (p := (a, oe)) F ⟨(hr.mono (by decide : 1 ≤ 2)).dp, (hr.mono (by decide : 1 ≤ 2)).un⟩ hot List.mem_cons_self (by rfl) mk Fk.kp bk (pa_cons (pe_var (i := 2) rfl (.inl rfl)) pa_nil)))
    exact st.run pins s1 σ H1 Dn I ⟨.ref a, e3, [.obj a], M, fun d M' => d = .str "word +" ∧ M' = M, fun _ _ => False, .cons (.obj a) .nil, mm, ⟨rfl, rfl, rfl⟩, fun d M' v H' ⟨z1, z2⟩ t1 mm1 r1 => by
      subst z1 z2
      rw [r1.str_inv]
      exact q H' t1 mm1, fun _ _ _ z => z.elim⟩
  refine ⟨_, pss_cons (ps_set (i := 1) hN rfl (.inl rfl) pe_non) (pss_cons (ps_try_all (n := "_law_e") (i := 2) (tb := fun W Dn σ HH => ∃ Ech : XK, (∀ cls d σ' H', Ech cls d H' → W cls d σ' H') ∧ σ[0]? = some (some (.ref f)) ∧ HH c' = some (CodeO c' q) ∧ tl Ech HH fun _ _ => False) rfl rfl hN rfl rfl (fun W pn xe tk => ?_)
    (.cons (c := .ref TM) ⟨by rfl, by decide, .inl m1⟩ (fun _ _ _ _ _ _ _ => pss_never) (.cons (c := .ref IT) ⟨by rfl, by decide, .inl m2⟩ (fun _ _ _ _ _ _ _ => pss_never) (.cons (c := .ref FE) ⟨by rfl, by decide, .inl m3⟩ go .nil)))) (pss_one (ps_ret (pe_var (i := 1) rfl (.inl rfl))))), ?_⟩
  · refine ⟨fun pins s' σ H' Dn I ⟨Ech, hW, h1, h2, h3⟩ => ?_⟩
    have st : PSs ((gotCx X ["_law_call_so", "_law_found", "_law_e"] "_law_try" (defScope s_law_try) g cdg s H).tr pn xe) (tryBody (defBody s_law_try)) _ := pss_one (ps_set (i := 1) (x := "_law_found") hN rfl (.inl rfl) (pe_tup (pa_cons pe_str (pa_cons (pe_quiet (act W pn xe Ech _ _ tk hW)) pa_nil))))
    exact st.run pins s' σ H' Dn I ⟨h1, h2, h3⟩
  · refine ⟨fun cls d H' => cls = .ref D ∧ d = none ∧ ∃ M, MOk X.prog X.w X.K M H' ∧ ∀ H'', TS H' H'' → MOk X.prog X.w X.K M H'' → Q (.str "word +") H'', fun cls d σ' H' ⟨e1, e2, M, mm, q⟩ => ?_, rfl, hc, h⟩
    subst e1 e2
    refine ⟨false, x1, fun z => (nomatch z), fun _ => ⟨false, x2, fun z => (nomatch z), fun _ => ⟨true, x3, fun _ a na hl => ⟨rfl, rfl, M, mm, List.getElem?_set_self hl, fun H'' t m => ⟨.str "word +", ?_, q H'' t m⟩⟩, fun z => (nomatch z)⟩⟩⟩
    rw [List.getElem?_set_ne (by decide), List.getElem?_set_self (by rw [List.length_set]; omega)]
end L3

/-! fight_ring of an odd word, its error's context told; _law_try(lambda: fight_ring(..)). -/
namespace L3
open PySem PySem.Spec PyProof.Rows L2 HotX L2H LamX
local macro_rules | `(tactic| walk_at "mem") => `(tactic| first | assumption | exact mset_same | (refine (mset_ne ?_).trans ?_ <;> first | assumption | exact Ne.symm (by assumption) | exact mset_same | (refine (mset_ne ?_).trans ?_ <;> first | assumption | exact Ne.symm (by assumption) | exact mset_same)))
local macro_rules | `(tactic| walk_at "line") => `(tactic| first | decide | (simp only [List.length_cons, List.length_nil, List.length_map, List.length_append]; first | decide | omega) | (refine sl_b ?_; simp only [List.length_cons, List.length_nil, List.length_map, List.length_append]; first | decide | omega))
local macro_rules | `(tactic| walk_at "s1") => `(tactic| first
  | ((with_reducible refine' k_var ?g0 ?_); (case g0 => exact rfl))
  | ((with_reducible refine' k_seqN ?g0 ?_); (case g0 => (try simp only [startD, g_cons, g_nil, List.map_cons, List.map_nil, List.length_cons, List.length_nil, Nat.reduceAdd, Nat.reduceSub, List.replicate_succ, List.replicate_zero, List.cons_append, List.nil_append, List.set_cons_zero, List.set_cons_succ, List.zip_cons_cons, List.zip_nil_right, List.zip_nil_left]); try exact rfl))
  | ((with_reducible refine' k_retN ?g0 ?_); (case g0 => (try simp only [startD, g_cons, g_nil, List.map_cons, List.map_nil, List.length_cons, List.length_nil, Nat.reduceAdd, Nat.reduceSub, List.replicate_succ, List.replicate_zero, List.cons_append, List.nil_append, List.set_cons_zero, List.set_cons_succ, List.zip_cons_cons, List.zip_nil_right, List.zip_nil_left]); try exact rfl))
  | (with_reducible refine k_nedev ?_)
  | (with_reducible refine k_ifS ?_)
  | (with_reducible refine k_next ?_)
  | (with_reducible refine k_drop ?_)
  | (with_reducible refine k_set ?_)
  | (with_reducible refine k_asg ?_)
  | (with_reducible refine k_sub ?_)
  | (with_reducible refine k_par ?_)
  | (with_reducible refine k_asP ?_)
  | (with_reducible refine k_par3 ?_)
  | (with_reducible refine k_asP3 ?_)
  | (with_reducible refine k_aug ?_)
  | (with_reducible refine k_for ?_)
  | (with_reducible refine k_B ?_)
  | (with_reducible refine k_asB ?_)
  | (with_reducible refine k_and ?_)
  | (with_reducible refine k_or ?_)
  | (with_reducible refine k_not ?_)
  | (with_reducible refine k_andV ?_)
  | (with_reducible refine k_orV ?_)
  | (with_reducible refine k_notV ?_)
  | (with_reducible refine k_chain ?_)
  | (with_reducible refine k_yes ?_)
  | (with_reducible refine k_if ?_)
  | (with_reducible refine k_c ?_)
  | (with_reducible refine k_op ?_)
  | (with_reducible refine k_nil ?_)
  | (with_reducible refine k_cons ?_)
  | (with_reducible refine k_tup ?_)
  | (with_reducible refine k_lst ?_)
  | (with_reducible refine k_call ?_)
  | (with_reducible refine k_fn ?_)
  | (with_reducible refine k_sl ?_)
  | (with_reducible refine k_app ?_)
  | (with_reducible refine k_pop ?_)
  | (with_reducible refine k_it ?_)
  | (with_reducible refine k_ik ?_)
  | (with_reducible refine k_il ?_)
  | (with_reducible refine k_ir ?_)
  | (with_reducible refine k_lc ?_)
  | (with_reducible refine k_addi ?_)
  | (with_reducible refine k_iaddi ?_)
  | (with_reducible refine k_eqi ?_)
  | (with_reducible refine k_nei ?_)
  | (with_reducible refine k_eqs ?_)
  | (with_reducible refine k_nes ?_)
  | (with_reducible refine k_eqb ?_)
  | (with_reducible refine k_neb ?_)
  | (with_reducible refine k_eqst ?_)
  | (with_reducible refine k_isN ?_)
  | (with_reducible refine k_notN ?_)
  | (with_reducible refine k_rsls ?_)
  | (with_reducible refine k_rsl ?_)
  | (with_reducible refine k_lent ?_)
  | (with_reducible refine k_i2 ?_)
  | (with_reducible refine k_toi ?_)
  | (with_reducible refine k_tob ?_)
  | (with_reducible refine k_itw ?_)
  | (with_reducible refine k_itt ?_)
  | (with_reducible refine k_lc2 ?_)
  | (with_reducible refine k_get ?_)
  | (with_reducible refine k_dc ?_)
  | ((with_reducible refine' k_ask ?g0 ?_); (case g0 => exact rfl))
  | ((with_reducible refine' k_ix ?g0 ?_); (case g0 => exact rfl))
  | ((with_reducible refine' k_lix ?g0 ?g1 ?_); (case g0 => walk_at "mem"); (case g1 => exact rfl))
  | ((with_reducible refine' k_int ?g0 ?_); (case g0 => first | exact trivial | exact cm2 | (show (0 : Int) < _; omega) | (show CMul _ _; exact .inl ⟨by omega, by omega⟩) | (show CMul _ _; exact .inr ⟨by omega, by omega⟩) | (show CDiv _ _; exact ⟨by omega, by omega⟩) | exact ⟨by decide, by decide⟩))
  | ((with_reducible refine' k_addt ?g0 ?_); (case g0 => walk_at "line"))
  | ((with_reducible refine' sl_s ?g0 ?_); (case g0 => walk_at "line"))
  | ((with_reducible refine' k_inT ?g0 ?g1 ?_); (case g0 => exact rfl); (case g1 => exact rfl))
  | ((with_reducible refine' k_ninT ?g0 ?g1 ?_); (case g0 => exact rfl); (case g1 => exact rfl))
  | ((with_reducible refine' k_inL ?g0 ?g1 ?g2 ?_); (case g0 => walk_at "mem"); (case g1 => exact rfl); (case g2 => exact rfl))
  | ((with_reducible refine' k_ninL ?g0 ?g1 ?g2 ?_); (case g0 => walk_at "mem"); (case g1 => exact rfl); (case g2 => exact rfl))
  | ((with_reducible refine' k_lenl ?g0 ?_); (case g0 => walk_at "mem"))
  | ((with_reducible refine' k_ninD ?g0 ?_); (case g0 => walk_at "mem"))
  | ((with_reducible refine' k_inD ?g0 ?_); (case g0 => walk_at "mem"))
  | ((with_reducible refine' k_rik ?g0 ?_); (case g0 => walk_at "mem"))
  | ((with_reducible refine' k_ril ?g0 ?_); (case g0 => walk_at "mem"))
  | ((with_reducible refine' k_isi ?g0 ?g1 ?_); (case g0 => exact rfl); (case g1 => exact rfl))
  | ((with_reducible refine' k_isl ?g0 ?_); (case g0 => walk_at "mem"))
  | ((with_reducible refine' k_rget ?g0 ?_); (case g0 => walk_at "mem"))
  | ((with_reducible refine' k_dix ?g0 ?g1 ?_); (case g0 => walk_at "mem"); (case g1 => assumption))
  | ((with_reducible refine' k_iaddl ?g0 ?g1 ?g2 ?_); (case g0 => walk_at "mem"); (case g1 => walk_at "mem"); (case g2 => walk_at "line"))
  | ((with_reducible refine' k_addl ?g0 ?g1 ?g2 ?_); (case g0 => walk_at "mem"); (case g1 => walk_at "mem"); (case g2 => walk_at "line"))
  | ((with_reducible refine' k_rall ?g0 ?g1 ?_); (case g0 => walk_at "mem"); (case g1 => exact rfl))
  | ((with_reducible refine' k_tot ?g0 ?_); (case g0 => walk_at "mem"))
  | ((with_reducible refine' k_t ?g0 ?_); (case g0 => exact rfl))
  | ((with_reducible refine' k_f ?g0 ?_); (case g0 => exact rfl)))
local macro_rules | `(tactic| walk_at "st") => `(tactic| (repeat (walk_at "s1")); try dsimp only)
local macro_rules | `(tactic| walk_at "c") => `(tactic| try simp only [inV_two, d_no, d_on, d_off, d_open, d_shut, d_no', d_on', d_off', d_open', d_shut', w_cold, w_cold', v_heat, reduceCtorEq, decide_true, decide_false, Bool.or_false, Bool.false_or, Bool.or_true, Bool.true_or, Bool.not_true, Bool.not_false, Bool.false_eq_true, Bool.true_eq_false, if_true, if_false, reduceIte])
local macro_rules | `(tactic| walk_at "len") => `(tactic| (intro ds M Q EX h; repeat (obtain ⟨x, h⟩ := h; try (subst x; exact rfl))))
section
variable {P : Program} {w : World} {K : PySem.W.Frag} {mg : Str → Option Value} {base : Heap}
theorem ok_fight_oddN {C : Addr} {f : Addr} {fd : FuncData} (c_need_house : Cal P w K mg base CX0 "need_house" 7 ["value"] sp_need_house) (c_ring_with : Cal P w K mg base CX0 "ring_with" 6 ["house", "device"] sp_ring_with) (c_is_word : Cal P w K mg base CX0 "is_word" 1 ["value", "words"] sp_is_word) (c_start_to : Cal P w K mg base CX0 "start_to" 5 ["house", "stand"] sp_start_to) (k_DEVICES : Con mg K "DEVICES" (.tup [.str "heater", .str "window"])) (T : ExF K mg "InvalidWord" C) (F : L2.Fun K "fight_ring" "fight_ring" s_fight_ring f fd) : FnOk P w K mg base (L2N.CX P w) 8 f fd ["house", "device"] (spOdd P w K C) := by
  rcases F.ex with ⟨oc, od, kV, doc, pm, an, cdv, ct, osl, rfl, lk, hcd⟩
  refine fn_of lk hcd sc_fight_ring (fun vs H Q E ⟨h, d, M, t, _⟩ => t.len) fun A outer s H vs Q E hr ⟨h, d, M, tt, mm, o, hw, hE⟩ => ?_
  have hu := hr.units
  obtain ⟨bmB, B, newId, initId, xF, xE⟩ := T.ex
  refine ⟨_, pss_cons (ds_expr (de_cal c_need_house (hr.mono (by decide)) (by rfl) pass0 (da_cons (dv 0) da_nil)))
    (pss_cons (ps_if (dt_not (dt_val (de_cal c_is_word (hr.mono (by decide)) (by rfl) pass0 (da_cons (dv 1) (da_cons (de_con k_DEVICES (by rfl)) da_nil)))))
      (pss_one (L2N.ps_raise rfl (L2N.takes_of rfl rfl rfl rfl) (L2N.pmk_own xF xE T.g T.k (raises_own T.b T.t) rfl))) pss_nil) pss_never), ?_⟩
  refine ⟨startD ["house", "device", "found"] [houseD h, d], M, { nx := fun Γ' M' => Γ' = startD ["house", "device", "found"] [houseD h, d] ∧ M' = M, rt := fun _ _ => False }, start_ok tt, mm, ?_, fun Γ' M' σ' H' ⟨e1, e2⟩ t1 m1 ee => ?_, fun _ _ _ _ z => z.elim, fun _ _ _ _ z => z.elim, fun _ _ _ _ z => z.elim⟩
  · walk_at "st"
    exact ⟨h, rfl, o, rfl, rfl⟩
  · subst e1 e2
    refine ⟨_, M', fun b M'' => b = true ∧ M'' = M', ee, m1, ?_, fun b M'' H'' ⟨e3, e4⟩ t2 m2 => ?_⟩
    · walk_at "st"
      exact ⟨d, ["heater", "window"], false, rfl, hw, rfl, rfl⟩
    · subst e3 e4
      exact hE H'' (t1.tr t2) m2
end
/-- only the table at P0 is known -/
def ntab (P0 : Addr) (M : Mm) : Mm := fun a => match M a with
  | some (.tab q) => if a = P0 then some (.tab q) else none
  | o => o
theorem ntab_le {P0 : Addr} {M : Mm} : Le (ntab P0 M) M := fun a o h => by
  unfold ntab at h
  split at h
  · rename_i q e
    split at h
    · cases h; exact e
    · cases h
  · exact h
theorem ntab_tab {P0 : Addr} {M : Mm} {a : Addr} {q : Str} (h : ntab P0 M a = some (.tab q)) : a = P0 := by
  unfold ntab at h
  split at h
  · split at h
    · assumption
    · cases h
  · rename_i e
    exact absurd h (e q)
theorem ntab_at {P0 : Addr} {M : Mm} {q : Str} (h : M P0 = some (.tab q)) : ntab P0 M P0 = some (.tab q) := by
  unfold ntab
  rw [h]
  exact if_pos rfl
theorem ntab_lst {P0 : Addr} {M : Mm} {a : Addr} {ds : List L3.D} (h : M a = some (.lst ds)) : ntab P0 M a = some (.lst ds) := by
  unfold ntab
  rw [h]
theorem ntab_dct {P0 : Addr} {M : Mm} {a : Addr} {o : Obj} {kvs : List (Stand × L3.D)} (h : M a = some (.dct o kvs)) : ntab P0 M a = some (.dct o kvs) := by
  unfold ntab
  rw [h]
theorem exo_ntbl {a : Addr} {o : Obj} (ps : Array Value) : exo a o ≠ .tbl ps := fun z => by cases z
/-- what is kept where a lambda is made -/
theorem TS.extN {H H' : Hp} (e : ExtN H H') : TS H H' := ⟨fun a xs h => e a _ h (fun _ z => (by cases z)), fun a o u h => e a _ h (fun _ z => (by cases z)), fun a q h => e a _ h codeO_ne⟩
theorem MOk.extN {P : Program} {w : World} {K : PySem.W.Frag} {M : Mm} {H H' : Hp} {P0 : Addr} {q : Str} (h : MOk P w K (ntab P0 M) H) (e : ExtN H H') (ht : Tabs [(P0, q)] H') (hq : M P0 = some (.tab q)) : MOk P w K (ntab P0 M) H' := fun a o k => by
  have z := h a o k
  cases o with
  | lst ds =>
    obtain ⟨xs, h1, h2⟩ := z
    exact ⟨xs, e a _ h1 (fun _ y => by cases y), h2.keep (TS.extN e)⟩
  | dct o kvs =>
    obtain ⟨xs, h1, h2, h3⟩ := z
    exact ⟨xs, e a _ h1 exo_ntbl, h2, Paired.mapP h3 fun _ _ y => KD.keep (TS.extN e) y⟩
  | tab q' =>
    have ea := ntab_tab k
    subst ea
    rw [ntab_at hq] at k
    cases k
    exact ht _ List.mem_cons_self
def dTryOdd (iH iO : Nat) (P0 : Addr) (q : Str) : DTE := fun Γ M Q => ∃ h d, Γ[iH]? = some (some (houseD h)) ∧ Γ[iO]? = some (some d) ∧ h.Ok ∧ wordB d ["heater", "window"] = some false ∧ M P0 = some (.tab q) ∧ Q (.str "word +") (ntab P0 M)
theorem de_tryodd {X : Cx} {iH iO : Nat} {P0 c C f g : Addr} {fd fdg : FuncData} {xH xO : Str} {params : Arguments} {scope : Scope} {p lpos pos bp1 bp2 bp3 bp4 : Pos} (F : FnOk X.prog X.w X.K X.mg X.base (L2N.CX X.prog X.w) 8 f fd ["house", "device"] (spOdd X.prog X.w X.K C)) (hmf : X.mg "fight_ring" = some (.ref f)) (hkf : PySem.W.keepIn X.K (.ref f) = true) (hbf : Binds X.K fd ["house", "device"] [])
    (Z : KinF X.K X.mg C) (G : L2.Fun X.K "_law_try" "_law_try" s_law_try g fdg) (hmg : X.mg "_law_try" = some (.ref g)) (hbg : Binds X.K fdg ["_law_call_so"] []) (hg : Gl X "_law_try") (TB : TabB X.base X.mg c P0) (hcode : X.env.code = .ref c) (hr : Room 10 X.A) (L : LamS X.env.scope scope) (hdef : defaultsOf params X.env = ([], []))
    (hbind : ∀ (q : Str) (cl : List (Str × Addr)) (pm cv ctv : Value), bindArgs (PySem.W.kla_fn "<lambda>" q params (.Call (.Name "fight_ring" bp1) [.Name xH bp2, .Name xO bp3] [] bp4) scope cl pm cv ctv) ⟨[], []⟩ = pure [])
    (hgl : scope.names.lookup ("fight_ring" : Str) = some .globalImplicit) (h1 : X.N[iH]? = some xH) (h2 : X.N[iO]? = some xO) (v1 : Vis scope xH) (v2 : Vis scope xO) (d1 : (xH == ("__debug__" : Str)) = false) (d2 : (xO == ("__debug__" : Str)) = false) (d3 : (xH == ("__classdict__" : Str)) = false) (d4 : (xO == ("__classdict__" : Str)) = false) :
    DE X (.Call (.Name "_law_try" p) [.Lambda params (.Call (.Name "fight_ring" bp1) [.Name xH bp2, .Name xO bp3] [] bp4) scope lpos] [] pos) (dTryOdd iH iO P0 (X.env.qual ++ "<lambda>")) := by
  obtain ⟨oc, od, kV, doc, pm, an, cdv, ct, osl, rfl, lk, hcd⟩ := G.ex
  refine pe_imp (pe_lamN (T := [(P0, X.env.qual ++ "<lambda>")]) (TT := TTry X.prog X.w X.K C) (t := fun E => tCall (spOdd X.prog X.w X.K C) [] E (tCons (tVar iH) (tCons (tVar iO) tNil))) (k := 8) hg hmg G.kp lk hcd hbg sc_law_try rfl (.inl rfl) (try_gives Z) TB hcode List.mem_cons_self (fun p hp _ => by rw [List.mem_singleton.mp hp]) hr (by decide) L hdef hbind (fun A fr s H E f' c' hr' => ?_)) fun σ H R ⟨Γ, M, Q, ee, mm, ⟨h, d, g1, g2, o, hw, hP, q⟩, fin⟩ => ?_
  · refine pe_call F hr' hgl hmf hkf hbf .nil (E := E) ?_ (pa_cons (pe_var h1 v1 d1 d3) (pa_cons (pe_var h2 v2 d2 d4) pa_nil))
    exact L2N.passes_call (L2N.takes_of (X := lamN X A fr s H E scope f' c') rfl rfl rfl rfl) fun _ _ _ _ z => z
  · refine ⟨fun p hp => ?_, fun H1 eN T1 => ?_⟩
    · rw [(List.mem_singleton.mp hp)]
      exact mm _ _ hP
    · have m1 := (mm.weak (ntab_le (P0 := P0))).extN eN T1 hP
      have e1 := ee.keep (TS.extN eN)
      obtain ⟨a, ga, ta⟩ := e1.at g1
      obtain ⟨b, gb, tb⟩ := e1.at g2
      refine ⟨a, ga, b, gb, h, d, ntab P0 M, .cons ta (.cons tb .nil), m1, o, hw, fun H2 t2 m2 => ⟨rfl, rfl, ntab P0 M, m2, fun H3 t3 m3 => ?_⟩⟩
      exact fin _ _ _ H3 q ((TS.extN eN).tr (t2.tr t3)) m3 (.str _)
end L3

/-! The law itself. -/
namespace L3
open PySem PySem.Spec PyProof.Rows L2 HotX L2H LamX
local macro_rules | `(tactic| walk_at "mem") => `(tactic| first | assumption | exact mset_same | (refine (mset_ne ?_).trans ?_ <;> first | assumption | exact Ne.symm (by assumption) | exact mset_same | (refine (mset_ne ?_).trans ?_ <;> first | assumption | exact Ne.symm (by assumption) | exact mset_same)))
local macro_rules | `(tactic| walk_at "line") => `(tactic| first | decide | (simp only [List.length_cons, List.length_nil, List.length_map, List.length_append]; first | decide | omega) | (refine sl_b ?_; simp only [List.length_cons, List.length_nil, List.length_map, List.length_append]; first | decide | omega))
local macro_rules | `(tactic| walk_at "s1") => `(tactic| first
  | ((with_reducible refine' k_var ?g0 ?_); (case g0 => exact rfl))
  | ((with_reducible refine' k_seqN ?g0 ?_); (case g0 => (try simp only [startD, g_cons, g_nil, List.map_cons, List.map_nil, List.length_cons, List.length_nil, Nat.reduceAdd, Nat.reduceSub, List.replicate_succ, List.replicate_zero, List.cons_append, List.nil_append, List.set_cons_zero, List.set_cons_succ, List.zip_cons_cons, List.zip_nil_right, List.zip_nil_left]); try exact rfl))
  | ((with_reducible refine' k_retN ?g0 ?_); (case g0 => (try simp only [startD, g_cons, g_nil, List.map_cons, List.map_nil, List.length_cons, List.length_nil, Nat.reduceAdd, Nat.reduceSub, List.replicate_succ, List.replicate_zero, List.cons_append, List.nil_append, List.set_cons_zero, List.set_cons_succ, List.zip_cons_cons, List.zip_nil_right, List.zip_nil_left]); try exact rfl))
  | (with_reducible refine k_nedev ?_)
  | (with_reducible refine k_ifS ?_)
  | (with_reducible refine k_next ?_)
  | (with_reducible refine k_drop ?_)
  | (with_reducible refine k_set ?_)
  | (with_reducible refine k_asg ?_)
  | (with_reducible refine k_sub ?_)
  | (with_reducible refine k_par ?_)
  | (with_reducible refine k_asP ?_)
  | (with_reducible refine k_par3 ?_)
  | (with_reducible refine k_asP3 ?_)
  | (with_reducible refine k_aug ?_)
  | (with_reducible refine k_for ?_)
  | (with_reducible refine k_B ?_)
  | (with_reducible refine k_asB ?_)
  | (with_reducible refine k_and ?_)
  | (with_reducible refine k_or ?_)
  | (with_reducible refine k_not ?_)
  | (with_reducible refine k_andV ?_)
  | (with_reducible refine k_orV ?_)
  | (with_reducible refine k_notV ?_)
  | (with_reducible refine k_chain ?_)
  | (with_reducible refine k_yes ?_)
  | (with_reducible refine k_if ?_)
  | (with_reducible refine k_c ?_)
  | (with_reducible refine k_op ?_)
  | (with_reducible refine k_nil ?_)
  | (with_reducible refine k_cons ?_)
  | (with_reducible refine k_tup ?_)
  | (with_reducible refine k_lst ?_)
  | (with_reducible refine k_call ?_)
  | (with_reducible refine k_fn ?_)
  | (with_reducible refine k_sl ?_)
  | (with_reducible refine k_app ?_)
  | (with_reducible refine k_pop ?_)
  | (with_reducible refine k_it ?_)
  | (with_reducible refine k_ik ?_)
  | (with_reducible refine k_il ?_)
  | (with_reducible refine k_ir ?_)
  | (with_reducible refine k_lc ?_)
  | (with_reducible refine k_addi ?_)
  | (with_reducible refine k_iaddi ?_)
  | (with_reducible refine k_eqi ?_)
  | (with_reducible refine k_nei ?_)
  | (with_reducible refine k_eqs ?_)
  | (with_reducible refine k_nes ?_)
  | (with_reducible refine k_eqb ?_)
  | (with_reducible refine k_neb ?_)
  | (with_reducible refine k_eqst ?_)
  | (with_reducible refine k_isN ?_)
  | (with_reducible refine k_notN ?_)
  | (with_reducible refine k_rsls ?_)
  | (with_reducible refine k_rsl ?_)
  | (with_reducible refine k_lent ?_)
  | (with_reducible refine k_i2 ?_)
  | (with_reducible refine k_toi ?_)
  | (with_reducible refine k_tob ?_)
  | (with_reducible refine k_itw ?_)
  | (with_reducible refine k_itt ?_)
  | (with_reducible refine k_lc2 ?_)
  | (with_reducible refine k_get ?_)
  | (with_reducible refine k_dc ?_)
  | ((with_reducible refine' k_ask ?g0 ?_); (case g0 => exact rfl))
  | ((with_reducible refine' k_ix ?g0 ?_); (case g0 => exact rfl))
  | ((with_reducible refine' k_lix ?g0 ?g1 ?_); (case g0 => walk_at "mem"); (case g1 => exact rfl))
  | ((with_reducible refine' k_int ?g0 ?_); (case g0 => first | exact trivial | exact cm2 | (show (0 : Int) < _; omega) | (show CMul _ _; exact .inl ⟨by omega, by omega⟩) | (show CMul _ _; exact .inr ⟨by omega, by omega⟩) | (show CDiv _ _; exact ⟨by omega, by omega⟩) | exact ⟨by decide, by decide⟩))
  | ((with_reducible refine' k_addt ?g0 ?_); (case g0 => walk_at "line"))
  | ((with_reducible refine' sl_s ?g0 ?_); (case g0 => walk_at "line"))
  | ((with_reducible refine' k_inT ?g0 ?g1 ?_); (case g0 => exact rfl); (case g1 => exact rfl))
  | ((with_reducible refine' k_ninT ?g0 ?g1 ?_); (case g0 => exact rfl); (case g1 => exact rfl))
  | ((with_reducible refine' k_inL ?g0 ?g1 ?g2 ?_); (case g0 => walk_at "mem"); (case g1 => exact rfl); (case g2 => exact rfl))
  | ((with_reducible refine' k_ninL ?g0 ?g1 ?g2 ?_); (case g0 => walk_at "mem"); (case g1 => exact rfl); (case g2 => exact rfl))
  | ((with_reducible refine' k_lenl ?g0 ?_); (case g0 => walk_at "mem"))
  | ((with_reducible refine' k_ninD ?g0 ?_); (case g0 => walk_at "mem"))
  | ((with_reducible refine' k_inD ?g0 ?_); (case g0 => walk_at "mem"))
  | ((with_reducible refine' k_rik ?g0 ?_); (case g0 => walk_at "mem"))
  | ((with_reducible refine' k_ril ?g0 ?_); (case g0 => walk_at "mem"))
  | ((with_reducible refine' k_isi ?g0 ?g1 ?_); (case g0 => exact rfl); (case g1 => exact rfl))
  | ((with_reducible refine' k_isl ?g0 ?_); (case g0 => walk_at "mem"))
  | ((with_reducible refine' k_rget ?g0 ?_); (case g0 => walk_at "mem"))
  | ((with_reducible refine' k_dix ?g0 ?g1 ?_); (case g0 => walk_at "mem"); (case g1 => assumption))
  | ((with_reducible refine' k_iaddl ?g0 ?g1 ?g2 ?_); (case g0 => walk_at "mem"); (case g1 => walk_at "mem"); (case g2 => walk_at "line"))
  | ((with_reducible refine' k_addl ?g0 ?g1 ?g2 ?_); (case g0 => walk_at "mem"); (case g1 => walk_at "mem"); (case g2 => walk_at "line"))
  | ((with_reducible refine' k_rall ?g0 ?g1 ?_); (case g0 => walk_at "mem"); (case g1 => exact rfl))
  | ((with_reducible refine' k_tot ?g0 ?_); (case g0 => walk_at "mem"))
  | ((with_reducible refine' k_t ?g0 ?_); (case g0 => exact rfl))
  | ((with_reducible refine' k_f ?g0 ?_); (case g0 => exact rfl)))
local macro_rules | `(tactic| walk_at "st") => `(tactic| (repeat (walk_at "s1")); try dsimp only)
local macro_rules | `(tactic| walk_at "c") => `(tactic| try simp only [inV_two, d_no, d_on, d_off, d_open, d_shut, d_no', d_on', d_off', d_open', d_shut', w_cold, w_cold', v_heat, reduceCtorEq, decide_true, decide_false, Bool.or_false, Bool.false_or, Bool.or_true, Bool.true_or, Bool.not_true, Bool.not_false, Bool.false_eq_true, Bool.true_eq_false, if_true, if_false, reduceIte])
local macro_rules | `(tactic| walk_at "len") => `(tactic| (intro ds M Q EX h; repeat (obtain ⟨x, h⟩ := h; try (subst x; exact rfl))))
/-! ### lists of lists are compared -/
def pyDs (M : Mm) : List L3.D → Option (List PyData)
  | [] => some []
  | d :: ds => match pyD M d, pyDs M ds with
    | some a, some b => some (a :: b)
    | _, _ => none
def pyL (M : Mm) : L3.D → Option PyData
  | .obj a => match M a with
    | some (.lst ds) => (pyDs M ds).map .list
    | _ => none
  | _ => none
theorem dp_Ds {P : Program} {w : World} {K : PySem.W.Frag} {H : Hp} {M : Mm} (mm : MOk P w K M H) : ∀ (ds : List L3.D) (vs : List V) (ps : List PyData), Ts K H vs ds → pyDs M ds = some ps → DpAll K H vs ps
  | [], _, _, .nil, e => by cases e; exact .nil
  | d :: ds, _, _, .cons a b, e => by
    unfold pyDs at e
    split at e
    · rename_i p q e1 e2
      cases e
      exact .cons (dp_D mm a e1) (dp_Ds mm ds _ _ b e2)
    · cases e
def rEqL : DR2 := fun x y M Q => ask (pyL M x) fun d => ask (pyL M y) fun e => SeqAt.shaped d = true ∧ SeqAt.shaped e = true ∧ Q (.bl (PyData.eqv d e)) M
theorem dp_L {P : Program} {w : World} {K : PySem.W.Frag} {H : Hp} {M : Mm} (mm : MOk P w K M H) {d : L3.D} {v : V} {p : PyData} (t : T K H v d) (e : pyL M d = some p) : Dp K H v p := by
  cases d with
  | obj a =>
    rw [t.obj_inv]
    unfold pyL at e
    simp only at e
    split at e
    · rename_i ds ho
      obtain ⟨xs, h1, h2⟩ := mm.lst ho
      obtain ⟨ps, e1, rfl⟩ := Option.map_eq_some_iff.mp e
      exact .lst (.of h1) (dp_Ds mm ds xs ps h2 e1)
    · cases e
  | _ => cases e
theorem op_eqLL {X : Cx} (hu : X.A.units + 64 < cLine) : DOp X (compareOp .Eq) rEqL := op_imp (op_eqD hu) fun x y H R ⟨dx, dy, M, Q, tx, ty, mm, h, f⟩ => by
  obtain ⟨d, e1, h⟩ := ask_ok h
  obtain ⟨e, e2, h⟩ := ask_ok h
  exact ⟨d, e, dp_L mm tx e1, dp_L mm ty e2, h.1, h.2.1, f _ M _ H h.2.2 TS.rfl' mm (.bl _)⟩
/-! ### the script -/
def ScOk (d : L3.D) (M : Mm) (ns : List Int) : Prop := (∃ a, d = .obj a ∧ M a = some (.lst (ns.map D.int))) ∨ d = .ls ns
theorem ScOk.new {d : L3.D} {M : Mm} {ns : List Int} (h : ScOk d M ns) {p : Addr} {o : MO} (hp : M p = none) : ScOk d (mset M p o) ns := by
  rcases h with ⟨a, e, h⟩ | h
  · exact .inl ⟨a, e, (mset_ne (mne h hp)).trans h⟩
  · exact .inr h
theorem k_addSc {d : L3.D} {M : Mm} {ns : List Int} {l : Addr} {xs : List L3.D} {Q : QD} (h : ScOk d M ns) (hl : M l = some (.lst xs)) (hn : xs.length + ns.length ≤ sizeLine) (q : ∀ p, M p = none → Q (.obj p) (mset M p (.lst (xs ++ ns.map D.int)))) : rAddD (.obj l) d M Q := by
  rcases h with ⟨a, rfl, h⟩ | rfl
  · exact k_addl hl h (by rw [List.length_map]; exact hn) q
  · unfold rAddD
    simp only [hl]
    exact ⟨hn, q⟩
theorem k_slL {M : Mm} {a : Addr} {ds : List L3.D} {lo hi : Option Int} {Q : QD} (h : M a = some (.lst ds)) (q : ∀ p, M p = none → Q (.obj p) (mset M p (.lst (cutD ds lo hi)))) : rSl lo hi (.obj a) M Q := by
  unfold rSl
  simp only [h]
  exact q
theorem cut_mem {ds : List L3.D} {lo hi : Option Int} {d : L3.D} (h : d ∈ cutD ds lo hi) : d ∈ ds := List.mem_of_mem_drop (List.mem_of_mem_take h)
abbrev qLaw : Str := ("law" : Str) ++ ".<locals>." ++ "<lambda>"
def expL : Nat → List L3.D
  | 0 => [.str "heater", .str "window"]
  | _ => []
theorem known_at : ∀ (i : Nat) (d : L3.D), [houseD feud0, houseD alone0, houseD third0][i]? = some d → ∃ hh : House, d = houseD hh ∧ hh.Ok ∧ ∀ fb : Dev → Bool, (∀ d, fb d = true ↔ Fight hh d) → (([Dev.heater, .window].filter fb).map fun d => D.str d.s) = expL i := by
  have peace : ∀ {hh : House} (e : hh.b.book = still0) (fb : Dev → Bool), (∀ d, fb d = true ↔ Fight hh d) → ([Dev.heater, .window].filter fb) = [] := fun {hh} e fb h => by
    have z : ∀ d, fb d = false := fun d => by
      cases q : fb d with
      | false => rfl
      | true => exact absurd ((h d).mp q) (still_peace e d)
    simp [List.filter_cons, z]
  intro i d h
  match i, h with
  | 0, h => cases h; exact ⟨feud0, rfl, feud_ok, fun fb hf => by simp [List.filter_cons, (hf .heater).mpr (feud_fight _), (hf .window).mpr (feud_fight _)]; rfl⟩
  | 1, h => cases h; exact ⟨alone0, rfl, alone_ok, fun fb hf => by rw [peace rfl fb hf]; rfl⟩
  | 2, h => cases h; exact ⟨third0, rfl, third_ok, fun fb hf => by rw [peace rfl fb hf]; rfl⟩
theorem k_eqL {M : Mm} {x y : L3.D} {p : PyData} {Q : QD} (h1 : pyL M x = some p) (h2 : pyL M y = some p) (h3 : SeqAt.shaped p = true) (h4 : PyData.eqv p p = true) (q : Q (.bl true) M) : rEqL x y M Q := by
  unfold rEqL
  rw [h1, h2, ask_some, ask_some, h4]
  exact ⟨h3, h3, q⟩
theorem pyL_3 {M : Mm} {a r0 r1 r2 : Addr} (h : M a = some (.lst [.obj r0, .obj r1, .obj r2])) (h0 : M r0 = some (.lst (expL 0))) (h1 : M r1 = some (.lst (expL 1))) (h2 : M r2 = some (.lst (expL 2))) : pyL M (.obj a) = some (.list [.list [.str "heater", .str "window"], .list [], .list []]) := by
  have e0 : pyD M (.obj r0) = some (.list [.str "heater", .str "window"]) := by unfold pyD; simp only [h0]; rfl
  have e1 : pyD M (.obj r1) = some (.list []) := by unfold pyD; simp only [h1]; rfl
  have e2 : pyD M (.obj r2) = some (.list []) := by unfold pyD; simp only [h2]; rfl
  unfold pyL
  simp only [h, pyDs, e0, e1, e2]
  rfl
/-! ### a def without parameters -/
def dFn0 (sp : DSp) : DTE := fun Γ M Q => sp [] M Q fun _ _ => False
theorem de_cal0 {X : Cx} {CX : CXT} {k : Nat} {sp : DSp} {x : Str} {p pos : Pos} (C : Cal X.prog X.w X.K X.mg X.base CX x k [] sp) (hr : Room k X.A) (hg : Gl X x) (hx : Passes CX X L2.E0) (hdb : (x == ("__debug__" : Str)) = false := by decide) : DE X (.Call (.Name x p) [] [] pos) (dFn0 sp) := by
  obtain ⟨f, fd, F, hm, hk, hb⟩ := C.ex
  exact pe_imp (pe_call0 F hr hg hm hk hb .nil hx hdb) fun σ H R ⟨Γ, M, Q, ee, mm, h, fin⟩ => ⟨[], M, Q, _, .nil, mm, h, fun d M' v H' a b c e => fin d M' v H' a b c e, fun _ _ _ z => z.elim⟩
section
variable {P : Program} {w : World} {K : PySem.W.Frag} {mg : Str → Option Value} {base : Heap}
abbrev s_law : Stmt := topS 90
theorem sc_law : FnScope ["_law_script", "_law_cell", "_law_deck_here", "_law_house_here", "_law_graph_here", "_law_due", "_law_device", "_law_told", "_law_odd", "_law_some"] ["_law_script"] (defScope s_law) := ⟨rfl, rfl, rfl, by decide +kernel, rfl, by decide +kernel, by decide +kernel⟩
/-- the law's promise: P0, the table of its code object -/
def spLaw (K : PySem.W.Frag) (P0 : Addr) : Sp := fun vs H R _ => ∃ (a : Addr) (ns : List Int), vs = [.ref a] ∧ ns.length ≤ 1000000 ∧ H P0 = some (.tbl #[]) ∧ SqL K H a (ns.map V.int) ∧ ∀ H', R (.bl true) H'
theorem ok_law {C c P0 ff g f : Addr} {ffd fdg fd : FuncData} (c_law_known : Cal P w K mg base CX0 "_law_known" 1 [] sp_law_known) (c_law_deck : Cal P w K mg base CX0 "_law_deck" 1 ["_law_cell", "_law_turn"] sp_law_deck) (c_law_house : Cal P w K mg base CX0 "_law_house" 5 ["_law_deck_here", "_law_most", "_law_pages"] sp_law_house) (c_law_graph : Cal P w K mg base CX0 "_law_graph" 4 ["_law_house_here"] sp_law_graph) (c_law_same : Cal P w K mg base CX0 "_law_same" 3 ["_law_told", "_law_due"] sp_law_same) (c_fight_ring : Cal P w K mg base CX0 "fight_ring" 8 ["house", "device"] sp_fight_ring) (c_fights : Cal P w K mg base CX0 "fights" 8 ["house"] sp_fights) (c_law_fought : Cal P w K mg base CX0 "_law_fought" 2 ["_law_graph_here", "_law_device"] sp_law_fought) (c_law_ring_right : Cal P w K mg base CX0 "_law_ring_right" 9 ["_law_house_here", "_law_device", "_law_told"] sp_law_ring_right) (m_isinstance : mg "isinstance" = none) (m_tuple : mg "tuple" = none) (cF : FnOk P w K mg base (L2N.CX P w) 8 ff ffd ["house", "device"] (spOdd P w K C)) (hmf : mg "fight_ring" = some (.ref ff)) (hkf : PySem.W.keepIn K (.ref ff) = true) (hbf : Binds K ffd ["house", "device"] [])
    (Z : KinF K mg C) (G : L2.Fun K "_law_try" "_law_try" s_law_try g fdg) (hmg : mg "_law_try" = some (.ref g)) (hbg : Binds K fdg ["_law_call_so"] []) (TB : TabB base mg c P0)
    (F : ∃ (oc : Value) (od : Option Addr) (kV doc pm : Value) (an : Option Addr) (ct : Value) (osl : Array (Option Value)), fd = PySem.W.fnOf "law" "law" (defArgs s_law) (defBody s_law) (defScope s_law) .none kV doc pm an (.ref c) ct ∧ K.lookup f = some ⟨oc, od, .func fd, osl⟩ ∧ PySem.W.codeIn K (.ref c) "law" = true) :
    FnOk P w K mg base L2.CX0 11 f fd ["_law_script"] (spLaw K P0) := by
  obtain ⟨oc, od, kV, doc, pm, an, ct, osl, rfl, lk, hcd⟩ := F
  refine fn_of lk hcd sc_law (fun vs H Q E ⟨a, ns, e, _⟩ => by rw [e]; rfl) fun A outer s H vs R E hr ⟨a, ns, e, hn, hP, hS, hR⟩ => ?_
  subst e
  have hu := hr.units
  suffices hh : ∃ t, PSs (cxOf L2.CX0 P w K mg base ["_law_script", "_law_cell", "_law_deck_here", "_law_house_here", "_law_graph_here", "_law_due", "_law_device", "_law_told", "_law_odd", "_law_some"] "law" (defScope s_law) f (.ref c) A outer s H E).nox (defBody s_law) t ∧ t { nx := fun _ H' => R .non H', rt := R } (L2.start ["_law_script", "_law_cell", "_law_deck_here", "_law_house_here", "_law_graph_here", "_law_due", "_law_device", "_law_told", "_law_odd", "_law_some"] [.ref a]) H from hh.elim fun t z => ⟨t, z.1.nox, z.2⟩
  refine ⟨_, (dss_cons (ds_for PassesOwn.never rfl (di_list (de_slice (de_op op_addD (de_lst (da_cons de_int da_nil)) (dv 0)) wp_none wp_int)) (dg_name (pg_name (i := 1) sc_law.nd rfl (Or.inl rfl))) (dss_cons (ds_set (i := 2) sc_law.nd rfl (.inl rfl) (de_cal c_law_deck (hr.mono (by decide)) (by rfl) pass0 (da_cons (dv 1) (da_cons de_int da_nil))))
        (dss_cons (ds_set (i := 3) sc_law.nd rfl (.inr rfl) (de_cal c_law_house (hr.mono (by decide)) (by rfl) pass0 (da_cons (dv 2) (da_cons de_int (da_cons de_int da_nil)))))
        (dss_cons (ds_set (i := 4) sc_law.nd rfl (.inr rfl) (de_cal c_law_graph (hr.mono (by decide)) (by rfl) pass0 (da_cons (dv 3) da_nil)))
        (dss_cons (ds_setLc (i := 5) (own := [("_law_device", 6)]) rfl sc_law.nd rfl rfl (sw_true rfl rfl rfl (by decide +kernel)) (di_list (de_lst (da_cons de_str (da_cons de_str da_nil)))) (blkOk_by (own := [("_law_device", 6)]) (N := ["_law_script", "_law_cell", "_law_deck_here", "_law_house_here", "_law_graph_here", "_law_due", "_law_device", "_law_told", "_law_odd", "_law_some"]) (sc := defScope s_law) (by decide +kernel)) (fun _ _ _ _ _ => (dg_name (pg_name (i := 6) sc_law.nd rfl (Or.inl rfl)))) (fun _ _ _ _ _ => (dts_one (dt_val (de_cal c_law_fought (hr.mono (by decide)) (by rfl) pass0 (da_cons (dv 4) (da_cons (dv 6) da_nil)))))) (fun _ _ _ _ _ => (dv 6)))
        (dss_cons (ds_if (dt_not (dt_val (de_cal c_law_same (hr.mono (by decide)) (by rfl) pass0 (da_cons (de_cal c_fights (hr.mono (by decide)) (by rfl) pass0 (da_cons (dv 3) da_nil)) (da_cons (dv 5) da_nil))))) (dss_one (ds_ret de_bl)) dss_nil)
        (dss_cons (ds_for PassesOwn.never rfl (di_list (de_lst (da_cons de_str (da_cons de_str da_nil)))) (dg_name (pg_name (i := 6) sc_law.nd rfl (Or.inl rfl))) (dss_cons (ds_set (i := 7) sc_law.nd rfl (.inl rfl) (de_cal c_fight_ring (hr.mono (by decide)) (by rfl) pass0 (da_cons (dv 3) (da_cons (dv 6) da_nil))))
        (dss_cons (ds_if (dt_cmp (op_neDD hu) (de_cmp op_isD (dv 7) de_non (nomark _)) (de_cmp (op_ninDD hu) (dv 6) (dv 5) (by rfl)) (nomark _)) (dss_one (ds_ret de_bl)) dss_nil)
        (dss_one (ds_if (PW.pt (dw_and (dt_cmp op_notD (dv 7) de_non (nomark _)) (dw_and1 (PW.pt (dw_or (dt_not (dt_val (de_callB call_isiD (by rfl) m_isinstance (by decide +kernel) (da_cons (dv 7) (da_cons (de_tyn (n := "tuple") (by rfl) m_tuple (by decide +kernel)) da_nil))))) (dw_or1 (dt_not (dt_val (de_cal c_law_ring_right (hr.mono (by decide)) (by rfl) pass0 (da_cons (dv 3) (da_cons (dv 6) (da_cons (dv 7) da_nil)))))))))))) (dss_one (ds_ret de_bl)) dss_nil)))))
        (dss_one (ds_for PassesOwn.never rfl (di_list (de_lst (da_cons de_non (da_cons de_str (da_cons de_str (da_cons de_int (da_cons (de_tup (da_cons de_str da_nil)) da_nil))))))) (dg_name (pg_name (i := 8) sc_law.nd rfl (Or.inr rfl))) (dss_one (ds_if (dt_cmp (op_neDD hu) (de_tryodd (iH := 3) (iO := 8) cF hmf hkf hbf Z G hmg hbg (by rfl) TB rfl hr (lamS_by (show lamSB (defScope s_law) _ = true from by decide +kernel)) rfl (fun _ _ _ _ _ => rfl) (by rfl) rfl rfl (.inr (.inr rfl)) (.inr (.inr rfl)) (by decide) (by decide) (by decide) (by decide)) de_str (nomark _)) (dss_one (ds_ret de_bl)) dss_nil)))))))))))
        (dss_cons (ds_set (i := 9) sc_law.nd rfl (.inl rfl) (de_cal0 c_law_known (hr.mono (by decide)) (by rfl) pass0))
        (dss_one (ds_ret (de_cmp (op_eqLL hu) (de_lc (own := [("_law_house_here", 3)]) rfl sc_law.nd (di_list (dv 9)) (blkOk_by (own := [("_law_house_here", 3)]) (N := ["_law_script", "_law_cell", "_law_deck_here", "_law_house_here", "_law_graph_here", "_law_due", "_law_device", "_law_told", "_law_odd", "_law_some"]) (sc := defScope s_law) (by decide +kernel)) (fun _ _ _ _ _ => (dg_name (pg_name (i := 3) sc_law.nd rfl (Or.inl rfl)))) (fun _ _ _ _ _ => dts_nil) (fun _ _ _ _ _ => (de_cal c_fights (hr.mono (by decide)) (by rfl) pass0 (da_cons (dv 3) da_nil)))) (de_lst (da_cons (de_lst (da_cons de_str (da_cons de_str da_nil))) (da_cons (de_lst da_nil) (da_cons (de_lst da_nil) da_nil)))) (nomark _)))))), ?_⟩
  obtain ⟨d, M, tt, mm, hM, sc⟩ : ∃ d M, Ts K H [.ref a] [d] ∧ MOk P w K M H ∧ M P0 = some (.tab qLaw) ∧ ScOk d M ns := by
    have tb : OOk P w K H P0 (.tab qLaw) := TabS.nil hP
    have two : Fz K H a (ns.map V.int) → ∃ d M, Ts K H [.ref a] [d] ∧ MOk P w K M H ∧ M P0 = some (.tab qLaw) ∧ ScOk d M ns := fun hz => by
      refine ⟨.ls ns, fun b => if b = P0 then some (.tab qLaw) else none, .cons (.ls hz) .nil, fun b o e => ?_, if_pos rfl, .inr rfl⟩
      by_cases hb : b = P0
      · have e' := (if_pos hb).symm.trans e
        cases e'
        rw [hb]
        exact tb
      · have e' := (if_neg hb).symm.trans e
        cases e'
    rcases hS with (h1 | ⟨o1, h1⟩) | h1
    · have na : ¬ a = P0 := fun z => by
        rw [z, hP] at h1
        cases h1
      refine ⟨.obj a, fun b => if b = P0 then some (.tab qLaw) else if b = a then some (.lst (ns.map D.int)) else none, .cons (.obj a) .nil, fun b o e => ?_, if_pos rfl, .inl ⟨a, rfl, (if_neg na).trans (if_pos rfl)⟩⟩
      by_cases hb : b = P0
      · have e' := (if_pos hb).symm.trans e
        cases e'
        rw [hb]
        exact tb
      · have e' := (if_neg hb).symm.trans e
        by_cases hc : b = a
        · have e2 := (if_pos hc).symm.trans e'
          cases e2
          rw [hc]
          exact ⟨_, h1, Ts_ints ns⟩
        · have e2 := (if_neg hc).symm.trans e'
          cases e2
    · exact two (.inl ⟨o1, h1⟩)
    · exact two (.inr h1)
  refine ⟨startD ["_law_script", "_law_cell", "_law_deck_here", "_law_house_here", "_law_graph_here", "_law_due", "_law_device", "_law_told", "_law_odd", "_law_some"] [d], M, { nx := fun _ _ => False, rt := fun d _ => d = .bl true }, start_ok tt, mm, ?_, fun _ _ _ _ z => z.elim, fun d' M' v H' e t1 m1 r1 => by
    rw [(show d' = .bl true from e)] at r1
    rw [r1.bl_inv]
    exact hR H', fun _ _ _ _ z => z.elim, fun _ _ _ _ z => z.elim⟩
  walk_at "st"
  intro l0 hl0
  walk_at "st"
  refine k_addSc (sc.new hl0) mset_same (Nat.le_trans (Nat.add_le_add_left hn 1) (by decide)) fun l1 hl1 => ?_
  walk_at "st"
  refine k_slL mset_same fun l2 hl2 => ?_
  walk_at "st"
  obtain ⟨cs, hcs⟩ : ∃ cs, cutD ([D.int 0] ++ ns.map D.int) none (some 8) = cs := ⟨_, rfl⟩
  have hcint : ∀ d ∈ cs, ∃ c : Int, d = .int c := fun d hd => by
    rw [← hcs] at hd
    rcases List.mem_append.mp (cut_mem hd) with z | z
    · exact ⟨0, List.mem_singleton.mp z⟩
    · obtain ⟨c, _, e⟩ := List.mem_map.mp z
      exact ⟨c, e.symm⟩
  have hcs' : mset (mset (mset M l0 (.lst [.int 0])) l1 (.lst ([D.int 0] ++ ns.map D.int))) l2 (.lst (cutD ([D.int 0] ++ ns.map D.int) none (some 8))) l2 = some (.lst cs) := by rw [mset_same, hcs]
  have hT0 : mset (mset (mset M l0 (.lst [.int 0])) l1 (.lst ([D.int 0] ++ ns.map D.int))) l2 (.lst (cutD ([D.int 0] ++ ns.map D.int) none (some 8))) P0 = some (.tab qLaw) :=
    ((Le.new hl0).tr ((Le.new hl1).tr (Le.new hl2))) _ _ hM
  generalize mset (mset (mset M l0 (.lst [.int 0])) l1 (.lst ([D.int 0] ++ ns.map D.int))) l2 (.lst (cutD ([D.int 0] ++ ns.map D.int) none (some 8))) = M1 at hcs' hT0
  clear hl2 hl1 hl0
  refine ⟨cs, fun _ Γ' M' => M' l2 = some (.lst cs) ∧ M' P0 = some (.tab qLaw) ∧ ∃ x1 x2 x3 x4 x5 x6 x7 x8 x9, Γ' = [some d, x1, x2, x3, x4, x5, x6, x7, x8, x9], fun _ _ _ z => z.1, ⟨hcs', hT0, _, _, _, _, _, _, _, _, _, rfl⟩, fun i d' Γ' M' hd' ⟨hL, hT, x1, x2, x3, x4, x5, x6, x7, x8, x9, eΓ⟩ => ?_, fun Γ' M' ⟨hL, hT, x1, x2, x3, x4, x5, x6, x7, x8, x9, eΓ⟩ => ?_⟩
  · obtain ⟨z, rfl⟩ := hcint d' (List.mem_of_getElem? hd')
    subst eΓ
    refine k_ask rfl ?_
    walk_at "st"
    refine ⟨z, rfl, fun dk M2 hdk le2 hD => ?_⟩
    walk_at "st"
    refine ⟨dk, 6, rfl, hD, by decide, fun h M3 o kp => ?_⟩
    walk_at "st"
    refine ⟨h, rfl, o, fun g4 og kvs M4 hg4 le4 hM4 Gr => ?_⟩
    walk_at "st"
    intro l5 hl5
    walk_at "st"
    have up : ∀ a o, M' a = some o → mset M4 l5 (.lst [.str "heater", .str "window"]) a = some o := fun a o q => (Le.new hl5) _ _ (le4 _ _ (kp _ _ (mne q hdk) (le2 _ _ q)))
    obtain ⟨fb, hfb⟩ : ∃ fb : Dev → Bool, ∀ d, fb d = true ↔ Fight h d := ⟨fun d => @decide (Fight h d) (Classical.propDecidable _), fun d => @decide_eq_true_iff _ (Classical.propDecidable _)⟩
    have hg5 : mset M4 l5 (.lst [.str "heater", .str "window"]) g4 = some (.dct og kvs) := Le.new hl5 _ _ hM4
    have G5 := Gr.le (Le.new (o := .lst [.str "heater", .str "window"]) hl5)
    refine lc_map [Dev.heater, .window] (fun d => .str d.s) (fun d => if fb d = true then some (.str d.s) else none) (srcL_ok mset_same) (line3 (by simp)) (fun a acc dv ha hdv R hR2 => ?_) fun a6 ha6 => ?_
    · refine k_ask rfl ⟨by simp, ?_⟩
      walk_at "st"
      refine ⟨h, g4, og, kvs, dv, rfl, o, (Le.new ha) _ _ hg5, G5.le (Le.new ha), fun b hb => ?_⟩
      have eb : b = fb dv := Bool.eq_iff_iff.mpr (hb.trans (hfb dv).symm)
      subst eb
      dsimp only
      cases hv : fb dv with
      | true =>
        rw [if_pos hv] at hR2
        walk_at "st"
        exact hR2
      | false =>
        rw [if_neg (by rw [hv]; exact Bool.false_ne_true)] at hR2
        walk_at "st"
        exact hR2
    have ed : [Dev.heater, .window].filterMap (fun d => if fb d = true then some (D.str d.s) else none) = (([Dev.heater, .window].filter fb).map (·.s)).map D.str := by
      cases z1 : fb .heater <;> cases z2 : fb .window <;> simp [List.filterMap_cons, List.filter_cons, z1, z2]
    rw [ed]
    have hlen : (([Dev.heater, .window].filter fb).map (·.s)).length ≤ 100 := by
      rw [List.length_map]
      exact Nat.le_trans (List.length_filter_le _ _) (by decide)
    have up6 : ∀ a o, M' a = some o → mset (mset M4 l5 (.lst [.str "heater", .str "window"])) a6 (.lst ((([Dev.heater, .window].filter fb).map (·.s)).map D.str)) a = some o := fun a o q => (Le.new ha6) _ _ (up a o q)
    walk_at "st"
    refine ⟨h, rfl, o, fun fb2 a7 hfb2 ha7 => ?_⟩
    have efb : fb2 = fb := funext fun d => Bool.eq_iff_iff.mpr ((hfb2 d).trans (hfb d).symm)
    subst efb
    walk_at "st"
    have ef : (([Dev.heater, .window].filter fb2).map fun d => D.str d.s) = (([Dev.heater, .window].filter fb2).map (·.s)).map D.str := by rw [List.map_map]; rfl
    refine ⟨a7, a6, _, rfl, by rw [mset_same, ef], (mset_ne (mne mset_same ha7)).trans mset_same, hlen, ?_⟩
    have up7 : ∀ a o, M' a = some o → mset (mset (mset M4 l5 (.lst [.str "heater", .str "window"])) a6 (.lst ((([Dev.heater, .window].filter fb2).map (·.s)).map D.str))) a7 (.lst (([Dev.heater, .window].filter fb2).map fun d => .str d.s)) a = some o := fun a o q => (Le.new ha7) _ _ (up6 a o q)
    have due7 := (Le.new (o := .lst (([Dev.heater, .window].filter fb2).map fun d => .str d.s)) ha7) a6 _ (mset_same (M := mset M4 l5 (.lst [.str "heater", .str "window"])) (o := .lst ((([Dev.heater, .window].filter fb2).map (·.s)).map D.str)))
    generalize mset (mset (mset M4 l5 (.lst [.str "heater", .str "window"])) a6 (.lst ((([Dev.heater, .window].filter fb2).map (·.s)).map D.str))) a7 (.lst (([Dev.heater, .window].filter fb2).map fun d => .str d.s)) = M7 at up7 due7
    walk_at "st"
    intro l8 hl8
    walk_at "st"
    refine ⟨[.str "heater", .str "window"], fun _ Γ' N => N l8 = some (.lst [.str "heater", .str "window"]) ∧ Le M7 N ∧ ∃ y6 y7, Γ' = [some d, some (.int z), some (.obj dk), some (houseD h), some (.obj g4), some (.obj a6), y6, y7, x8, x9], fun _ _ _ z => z.1, ⟨mset_same, Le.new hl8, _, _, rfl⟩, fun j dd Γ' N hdd ⟨hN8, up8, y6, y7, eΓ⟩ => ?_, fun Γ' N ⟨hN8, up8, y6, y7, eΓ⟩ => ?_⟩
    · obtain ⟨dv, rfl⟩ : ∃ dv : Dev, dd = .str dv.s := by
        rcases List.mem_cons.mp (List.mem_of_getElem? hdd) with z | z
        · exact ⟨.heater, z⟩
        · exact ⟨.window, List.mem_singleton.mp z⟩
      subst eΓ
      have due8 := up8 _ _ due7
      have hin : inV (.str dv.s) ((([Dev.heater, .window].filter fb2).map (·.s)).map V.str) = fb2 dv := by
        rw [inV_strs]
        cases dv <;> cases z1 : fb2 .heater <;> cases z2 : fb2 .window <;> simp [List.filter_cons, z1, z2] <;> decide
      refine k_ask rfl ?_
      walk_at "st"
      refine ⟨h, dv, rfl, o, fun res r0 r1 => ?_⟩
      cases res with
      | none =>
        have e1 : fb2 dv = false := by
          cases z : fb2 dv with
          | false => rfl
          | true => exact absurd ((hfb dv).mp z) (r0 rfl)
        unfold optF
        walk_at "st"
        refine k_ninL due8 rfl (toVs_strs _) ?_
        rw [hin, e1]
        walk_at "st"
        exact ⟨hN8, up8, _, _, rfl⟩
      | some tg =>
        obtain ⟨s0, r, t, gg⟩ := tg
        obtain ⟨q1, q2, q3, q4, q5⟩ := r1 s0 r t gg rfl
        have e1 : fb2 dv = true := (hfb dv).mpr (q4.fight q5)
        unfold optF
        walk_at "st"
        refine k_ninL due8 rfl (toVs_strs _) ?_
        rw [hin, e1]
        walk_at "st"
        refine ⟨h, dv, s0, r, t, gg, rfl, o, q1, q2, q3, q4, ?_⟩
        walk_at "st"
        exact ⟨hN8, up8, _, _, rfl⟩
    · subst eΓ
      walk_at "st"
      intro l9 hl9
      walk_at "st"
      refine ⟨[.non, .str "", .str "Heater", .int 0, .tup [.str "window"]], fun _ Γ' N' => N' l9 = some (.lst [.non, .str "", .str "Heater", .int 0, .tup [.str "window"]]) ∧ N' l2 = some (.lst cs) ∧ N' P0 = some (.tab qLaw) ∧ ∃ y8, Γ' = [some d, some (.int z), some (.obj dk), some (houseD h), some (.obj g4), some (.obj a6), y6, y7, y8, x9], fun _ _ _ z => z.1,
        ⟨mset_same, Le.new hl9 _ _ (up8 _ _ (up7 _ _ hL)), Le.new hl9 _ _ (up8 _ _ (up7 _ _ hT)), _, rfl⟩, fun j dd Γ' N' hdd ⟨hN9, hL9, hT9, y8, eΓ⟩ => ?_, fun Γ' N' ⟨hN9, hL9, hT9, y8, eΓ⟩ => ?_⟩
      · have hw : wordB dd ["heater", "window"] = some false := by
          have hm := List.mem_of_getElem? hdd
          simp only [List.not_mem_nil, List.mem_cons, or_false] at hm
          rcases hm with z | z | z | z | z <;> subst z <;> decide +kernel
        subst eΓ
        refine k_ask rfl ?_
        walk_at "st"
        refine ⟨h, dd, rfl, rfl, o, hw, hT9, ?_⟩
        walk_at "st"
        exact ⟨ntab_lst hN9, ntab_lst hL9, ntab_at hT9, _, rfl⟩
      · subst eΓ
        exact ⟨hL9, hT9, _, _, _, _, _, _, _, _, _, rfl⟩
  · subst eΓ
    walk_at "st"
    refine ⟨rfl, fun lk hlk => ?_⟩
    walk_at "st"
    intro a9 ha9
    have nka : lk ≠ a9 := mne mset_same ha9
    refine ⟨[houseD feud0, houseD alone0, houseD third0], fun i N => i ≤ 3 ∧ N lk = some (.lst [houseD feud0, houseD alone0, houseD third0]) ∧ ∃ rs : List Addr, rs.length = i ∧ N a9 = some (.lst (rs.map D.obj)) ∧ ∀ j r, rs[j]? = some r → r ≠ a9 ∧ N r = some (.lst (expL j)), fun _ _ z => z.2.1, ⟨Nat.zero_le _, (mset_ne nka).trans mset_same, [], rfl, mset_same, fun j r z => by simp at z⟩, fun i dd N hdd ⟨hi, hNk, rs, hrl, hNa, hall⟩ => ?_, fun N ⟨hi, hNk, rs, hrl, hNa, hall⟩ => ?_⟩
    · obtain ⟨hh, rfl, ok, hfbs⟩ := known_at i dd hdd
      have hi3 : i < 3 := (List.getElem?_eq_some_iff.mp hdd).1
      refine k_ask rfl ⟨by simp, ?_⟩
      walk_at "st"
      refine ⟨hh, rfl, ok, fun fb r hfb hr => ?_⟩
      rw [hfbs fb hfb]
      dsimp only
      rw [(mset_ne (mne hNa hr)).trans hNa]
      dsimp only
      have n1 : r ≠ a9 := (mne hNa hr).symm
      refine ⟨line3 (by rw [List.length_map, hrl]; omega), hi3, (mset_ne nka).trans ((mset_ne (mne hNk hr)).trans hNk), rs ++ [r], by rw [List.length_append, hrl]; rfl, by rw [mset_same, List.map_append]; rfl, fun j r' z => ?_⟩
      by_cases hj : j < rs.length
      · rw [List.getElem?_append_left hj] at z
        obtain ⟨w1, w2⟩ := hall j r' z
        exact ⟨w1, (mset_ne w1).trans ((mset_ne (mne w2 hr)).trans w2)⟩
      · rw [List.getElem?_append_right (by omega)] at z
        have hj0 : j - rs.length = 0 := by
          have := (List.getElem?_eq_some_iff.mp z).1
          simp only [List.length_cons, List.length_nil] at this
          omega
        rw [hj0] at z
        cases z
        have ej : j = i := by omega
        rw [ej]
        exact ⟨n1, (mset_ne n1).trans mset_same⟩
    · obtain ⟨r0, r1, r2, rfl⟩ : ∃ r0 r1 r2, rs = [r0, r1, r2] := by
        match rs, hrl with
        | [x0, x1, x2], _ => exact ⟨x0, x1, x2, rfl⟩
      have w0 := (hall 0 r0 rfl).2
      have w1 := (hall 1 r1 rfl).2
      have w2 := (hall 2 r2 rfl).2
      walk_at "st"
      intro b0 hb0
      walk_at "st"
      intro b1 hb1
      walk_at "st"
      intro b2 hb2
      walk_at "st"
      intro b3 hb3
      have ups : ∀ c o, N c = some o → mset (mset (mset (mset N b0 (.lst [.str "heater", .str "window"])) b1 (.lst [])) b2 (.lst [])) b3 (.lst [.obj b0, .obj b1, .obj b2]) c = some o := fun c o q => (Le.new hb3) _ _ ((Le.new hb2) _ _ ((Le.new hb1) _ _ ((Le.new hb0) _ _ q)))
      refine k_eqL (pyL_3 (ups _ _ hNa) (ups _ _ w0) (ups _ _ w1) (ups _ _ w2)) (pyL_3 mset_same ((Le.new hb3) _ _ ((Le.new hb2) _ _ ((Le.new hb1) _ _ mset_same))) ((Le.new hb3) _ _ ((Le.new hb2) _ _ mset_same)) ((Le.new hb3) _ _ mset_same)) (by decide +kernel) (by decide +kernel) rfl
end
end L3

namespace L3
open PySem PySem.Spec PyProof.Rows L2
open LamX
structure DefS (K : PySem.W.Frag) (x : Str) (st : Stmt) : Prop where
  ex : ∃ f fd, L2.Fun K x x st f fd ∧ PySem.W.nsIn K mainGlobals x = some (some (.ref f))
theorem defs_mk {K : PySem.W.Frag} {x : Str} {st : Stmt} {f : Addr} {oc : Value} {od an : Option Addr} {osl : Array (Option Value)} {kV doc pm cdv ct : Value} (a : PySem.W.nsIn K mainGlobals x = some (some (.ref f)))
    (l : K.lookup f = some ⟨oc, od, .func (PySem.W.fnOf x x (defArgs st) (defBody st) (defScope st) .none kV doc pm an cdv ct), osl⟩) (c : PySem.W.codeIn K cdv x = true) (k : PySem.W.keepIn K (.ref f) = true) : DefS K x st := ⟨_, _, fun_mk l c k, a⟩
theorem con_strs {K : PySem.W.Frag} {mg : Str → Option Value} {x : Str} {a : Addr} {oc : Obj} {its : Array Value} {n : Nat} {ws : List Str} (hm : mg x = some (.ref a)) (l : K.lookup a = some oc) (hc : oc.cls = .type "tuple") (hd : oc.data = .seq its n) (hz : its.size ≤ sizeLine) (hv : Vals (ws.map V.str) its.toList) : Con mg K x (.tup (ws.map D.str)) :=
  ⟨.ref a, .ref a, hm, rfl, fun H => .tup (.inr ⟨oc, its, n, l, hc, hd, hz, hv⟩) (Ts_strs ws)⟩
theorem con_int {K : PySem.W.Frag} {mg : Str → Option Value} {x : Str} {i : Int} {t : Tok} (hm : mg x = some (.int i t)) : Con mg K x (.int i) := ⟨.int i t, .int i, hm, ⟨t, rfl⟩, fun H => .int i⟩
theorem kd_mk {K : PySem.W.Frag} {mg : Str → Option Value} {D c : Addr} {x : Str} {b : Bool} (hm : mg x = some (.ref c)) (h : PySem.W.kitOne K (.ref D) (.ref c) = some b) : Kd K mg D x b := ⟨c, ⟨.ref c, .ref c, hm, rfl, fun H => .obj c⟩, h⟩
theorem kin_of {K : PySem.W.Frag} {mg : Str → Option Value} {h : Heap} (KX : K.In h) (G : h.Ns mainGlobals mg) (d : DefS K "_law_kin" s_law_kin) : ∃ f fd, L2.Fun K "_law_kin" "_law_kin" s_law_kin f fd ∧ mg "_law_kin" = some (.ref f) ∧ Binds K fd ["_law_e"] [] := by
  obtain ⟨f, fd, F, a⟩ := d.ex
  exact ⟨f, fd, F, PySem.W.mg_of KX G a, F.binds (ps := ["_law_e"]) fun _ _ _ _ _ _ us hl => match us, hl with | [_], _ => rfl⟩
/-- the facts of all that the top has written -/
structure AllS (K : PySem.W.Frag) (mg : Str → Option Value) (C : Addr) : Prop where
  d_law_known : DefS K "_law_known" s_law_known
  d_law_deck : DefS K "_law_deck" s_law_deck
  d_law_pick : DefS K "_law_pick" s_law_pick
  d_law_one : DefS K "_law_one" s_law_one
  d_law_warm : DefS K "_law_warm" s_law_warm
  d_law_tried : DefS K "_law_tried" s_law_tried
  d_law_book : DefS K "_law_book" s_law_book
  d_law_house : DefS K "_law_house" s_law_house
  d_law_level : DefS K "_law_level" s_law_level
  d_law_begin : DefS K "_law_begin" s_law_begin
  d_law_frac : DefS K "_law_frac" s_law_frac
  d_law_starts : DefS K "_law_starts" s_law_starts
  d_law_set : DefS K "_law_set" s_law_set
  d_law_looks : DefS K "_law_looks" s_law_looks
  d_law_feel : DefS K "_law_feel" s_law_feel
  d_law_look : DefS K "_law_look" s_law_look
  d_law_period : DefS K "_law_period" s_law_period
  d_law_gain : DefS K "_law_gain" s_law_gain
  d_law_warmed : DefS K "_law_warmed" s_law_warmed
  d_law_tick : DefS K "_law_tick" s_law_tick
  d_law_graph : DefS K "_law_graph" s_law_graph
  d_law_sort : DefS K "_law_sort" s_law_sort
  d_law_same : DefS K "_law_same" s_law_same
  d_is_within : DefS K "is_within" s_is_within
  d_is_room_value : DefS K "is_room_value" s_is_room_value
  d_is_word : DefS K "is_word" s_is_word
  d_is_tries : DefS K "is_tries" s_is_tries
  d_is_line : DefS K "is_line" s_is_line
  d_is_book_value : DefS K "is_book_value" s_is_book_value
  d_is_person_value : DefS K "is_person_value" s_is_person_value
  d_is_house_value : DefS K "is_house_value" s_is_house_value
  d_need_house : DefS K "need_house" s_need_house
  d_level_of : DefS K "level_of" s_level_of
  d_begun : DefS K "begun" s_begun
  d_divisor : DefS K "divisor" s_divisor
  d_lowest : DefS K "lowest" s_lowest
  d_warmth_of : DefS K "warmth_of" s_warmth_of
  d_starts_of : DefS K "starts_of" s_starts_of
  d_changed : DefS K "changed" s_changed
  d_first_change : DefS K "first_change" s_first_change
  d_looks : DefS K "looks" s_looks
  d_feeling_of : DefS K "feeling_of" s_feeling_of
  d_looked : DefS K "looked" s_looked
  d_change_of : DefS K "change_of" s_change_of
  d_period_of : DefS K "period_of" s_period_of
  d_passed : DefS K "passed" s_passed
  d_step : DefS K "step" s_step
  d_graph_of : DefS K "graph_of" s_graph_of
  d_reached : DefS K "reached" s_reached
  d_sets_device : DefS K "sets_device" s_sets_device
  d_round_by : DefS K "round_by" s_round_by
  d_ring_with : DefS K "ring_with" s_ring_with
  d_start_to : DefS K "start_to" s_start_to
  d_fight_ring : DefS K "fight_ring" s_fight_ring
  d_fights : DefS K "fights" s_fights
  d_law_setters : DefS K "_law_setters" s_law_setters
  d_law_after : DefS K "_law_after" s_law_after
  d_law_fought : DefS K "_law_fought" s_law_fought
  d_is_warmth : DefS K "is_warmth" s_is_warmth
  d_is_start_value : DefS K "is_start_value" s_is_start_value
  d_is_start : DefS K "is_start" s_is_start
  d_law_led : DefS K "_law_led" s_law_led
  d_law_ring_right : DefS K "_law_ring_right" s_law_ring_right
  d_law_try : DefS K "_law_try" s_law_try
  m_ValueError : mg "ValueError" = none
  m_all : mg "all" = none
  m_bool : mg "bool" = none
  m_enumerate : mg "enumerate" = none
  m_int : mg "int" = none
  m_isinstance : mg "isinstance" = none
  m_len : mg "len" = none
  m_list : mg "list" = none
  m_max : mg "max" = none
  m_min : mg "min" = none
  m_range : mg "range" = none
  m_set : mg "set" = none
  m_sorted : mg "sorted" = none
  m_str : mg "str" = none
  m_tuple : mg "tuple" = none
  m_zip : mg "zip" = none
  k_DEEDS : Con mg K "DEEDS" (.tup [.str "off", .str "on", .str "open", .str "shut"])
  k_DEVICES : Con mg K "DEVICES" (.tup [.str "heater", .str "window"])
  k_MOST_PAGES : Con mg K "MOST_PAGES" (.int 3)
  k_WEATHERS : Con mg K "WEATHERS" (.tup [.str "cold", .str "mild"])
  kf : KinF K mg C
  xf : ExF K mg "InvalidWord" C
theorem all_law {P : Program} {w : World} {K : PySem.W.Frag} {mg : Str → Option Value} {base h : Heap} {C c P0 f : Addr} {fd : FuncData} (A : AllS K mg C) (KX : K.In h) (G : h.Ns mainGlobals mg) (TB : TabB base mg c P0)
    (F : ∃ (oc : Value) (od : Option Addr) (kV doc pm : Value) (an : Option Addr) (ct : Value) (osl : Array (Option Value)), fd = PySem.W.fnOf "law" "law" (defArgs s_law) (defBody s_law) (defScope s_law) .none kV doc pm an (.ref c) ct ∧ K.lookup f = some ⟨oc, od, .func fd, osl⟩ ∧ PySem.W.codeIn K (.ref c) "law" = true) :
    FnOk P w K mg base L2.CX0 11 f fd ["_law_script"] (spLaw K P0) := by
  obtain ⟨f_law_known, fd_law_known, F_law_known, a_law_known⟩ := A.d_law_known.ex
  obtain ⟨f_law_deck, fd_law_deck, F_law_deck, a_law_deck⟩ := A.d_law_deck.ex
  obtain ⟨f_law_pick, fd_law_pick, F_law_pick, a_law_pick⟩ := A.d_law_pick.ex
  obtain ⟨f_law_one, fd_law_one, F_law_one, a_law_one⟩ := A.d_law_one.ex
  obtain ⟨f_law_warm, fd_law_warm, F_law_warm, a_law_warm⟩ := A.d_law_warm.ex
  obtain ⟨f_law_tried, fd_law_tried, F_law_tried, a_law_tried⟩ := A.d_law_tried.ex
  obtain ⟨f_law_book, fd_law_book, F_law_book, a_law_book⟩ := A.d_law_book.ex
  obtain ⟨f_law_house, fd_law_house, F_law_house, a_law_house⟩ := A.d_law_house.ex
  obtain ⟨f_law_level, fd_law_level, F_law_level, a_law_level⟩ := A.d_law_level.ex
  obtain ⟨f_law_begin, fd_law_begin, F_law_begin, a_law_begin⟩ := A.d_law_begin.ex
  obtain ⟨f_law_frac, fd_law_frac, F_law_frac, a_law_frac⟩ := A.d_law_frac.ex
  obtain ⟨f_law_starts, fd_law_starts, F_law_starts, a_law_starts⟩ := A.d_law_starts.ex
  obtain ⟨f_law_set, fd_law_set, F_law_set, a_law_set⟩ := A.d_law_set.ex
  obtain ⟨f_law_looks, fd_law_looks, F_law_looks, a_law_looks⟩ := A.d_law_looks.ex
  obtain ⟨f_law_feel, fd_law_feel, F_law_feel, a_law_feel⟩ := A.d_law_feel.ex
  obtain ⟨f_law_look, fd_law_look, F_law_look, a_law_look⟩ := A.d_law_look.ex
  obtain ⟨f_law_period, fd_law_period, F_law_period, a_law_period⟩ := A.d_law_period.ex
  obtain ⟨f_law_gain, fd_law_gain, F_law_gain, a_law_gain⟩ := A.d_law_gain.ex
  obtain ⟨f_law_warmed, fd_law_warmed, F_law_warmed, a_law_warmed⟩ := A.d_law_warmed.ex
  obtain ⟨f_law_tick, fd_law_tick, F_law_tick, a_law_tick⟩ := A.d_law_tick.ex
  obtain ⟨f_law_graph, fd_law_graph, F_law_graph, a_law_graph⟩ := A.d_law_graph.ex
  obtain ⟨f_law_sort, fd_law_sort, F_law_sort, a_law_sort⟩ := A.d_law_sort.ex
  obtain ⟨f_law_same, fd_law_same, F_law_same, a_law_same⟩ := A.d_law_same.ex
  obtain ⟨f_is_within, fd_is_within, F_is_within, a_is_within⟩ := A.d_is_within.ex
  obtain ⟨f_is_room_value, fd_is_room_value, F_is_room_value, a_is_room_value⟩ := A.d_is_room_value.ex
  obtain ⟨f_is_word, fd_is_word, F_is_word, a_is_word⟩ := A.d_is_word.ex
  obtain ⟨f_is_tries, fd_is_tries, F_is_tries, a_is_tries⟩ := A.d_is_tries.ex
  obtain ⟨f_is_line, fd_is_line, F_is_line, a_is_line⟩ := A.d_is_line.ex
  obtain ⟨f_is_book_value, fd_is_book_value, F_is_book_value, a_is_book_value⟩ := A.d_is_book_value.ex
  obtain ⟨f_is_person_value, fd_is_person_value, F_is_person_value, a_is_person_value⟩ := A.d_is_person_value.ex
  obtain ⟨f_is_house_value, fd_is_house_value, F_is_house_value, a_is_house_value⟩ := A.d_is_house_value.ex
  obtain ⟨f_need_house, fd_need_house, F_need_house, a_need_house⟩ := A.d_need_house.ex
  obtain ⟨f_level_of, fd_level_of, F_level_of, a_level_of⟩ := A.d_level_of.ex
  obtain ⟨f_begun, fd_begun, F_begun, a_begun⟩ := A.d_begun.ex
  obtain ⟨f_divisor, fd_divisor, F_divisor, a_divisor⟩ := A.d_divisor.ex
  obtain ⟨f_lowest, fd_lowest, F_lowest, a_lowest⟩ := A.d_lowest.ex
  obtain ⟨f_warmth_of, fd_warmth_of, F_warmth_of, a_warmth_of⟩ := A.d_warmth_of.ex
  obtain ⟨f_starts_of, fd_starts_of, F_starts_of, a_starts_of⟩ := A.d_starts_of.ex
  obtain ⟨f_changed, fd_changed, F_changed, a_changed⟩ := A.d_changed.ex
  obtain ⟨f_first_change, fd_first_change, F_first_change, a_first_change⟩ := A.d_first_change.ex
  obtain ⟨f_looks, fd_looks, F_looks, a_looks⟩ := A.d_looks.ex
  obtain ⟨f_feeling_of, fd_feeling_of, F_feeling_of, a_feeling_of⟩ := A.d_feeling_of.ex
  obtain ⟨f_looked, fd_looked, F_looked, a_looked⟩ := A.d_looked.ex
  obtain ⟨f_change_of, fd_change_of, F_change_of, a_change_of⟩ := A.d_change_of.ex
  obtain ⟨f_period_of, fd_period_of, F_period_of, a_period_of⟩ := A.d_period_of.ex
  obtain ⟨f_passed, fd_passed, F_passed, a_passed⟩ := A.d_passed.ex
  obtain ⟨f_step, fd_step, F_step, a_step⟩ := A.d_step.ex
  obtain ⟨f_graph_of, fd_graph_of, F_graph_of, a_graph_of⟩ := A.d_graph_of.ex
  obtain ⟨f_reached, fd_reached, F_reached, a_reached⟩ := A.d_reached.ex
  obtain ⟨f_sets_device, fd_sets_device, F_sets_device, a_sets_device⟩ := A.d_sets_device.ex
  obtain ⟨f_round_by, fd_round_by, F_round_by, a_round_by⟩ := A.d_round_by.ex
  obtain ⟨f_ring_with, fd_ring_with, F_ring_with, a_ring_with⟩ := A.d_ring_with.ex
  obtain ⟨f_start_to, fd_start_to, F_start_to, a_start_to⟩ := A.d_start_to.ex
  obtain ⟨f_fight_ring, fd_fight_ring, F_fight_ring, a_fight_ring⟩ := A.d_fight_ring.ex
  obtain ⟨f_fights, fd_fights, F_fights, a_fights⟩ := A.d_fights.ex
  obtain ⟨f_law_setters, fd_law_setters, F_law_setters, a_law_setters⟩ := A.d_law_setters.ex
  obtain ⟨f_law_after, fd_law_after, F_law_after, a_law_after⟩ := A.d_law_after.ex
  obtain ⟨f_law_fought, fd_law_fought, F_law_fought, a_law_fought⟩ := A.d_law_fought.ex
  obtain ⟨f_is_warmth, fd_is_warmth, F_is_warmth, a_is_warmth⟩ := A.d_is_warmth.ex
  obtain ⟨f_is_start_value, fd_is_start_value, F_is_start_value, a_is_start_value⟩ := A.d_is_start_value.ex
  obtain ⟨f_is_start, fd_is_start, F_is_start, a_is_start⟩ := A.d_is_start.ex
  obtain ⟨f_law_led, fd_law_led, F_law_led, a_law_led⟩ := A.d_law_led.ex
  obtain ⟨f_law_ring_right, fd_law_ring_right, F_law_ring_right, a_law_ring_right⟩ := A.d_law_ring_right.ex
  obtain ⟨f_law_try, fd_law_try, F_law_try, a_law_try⟩ := A.d_law_try.ex
  have c_law_known : Cal P w K mg base CX0 "_law_known" 1 [] sp_law_known := ⟨f_law_known, fd_law_known, ok_law_known  F_law_known, PySem.W.mg_of KX G a_law_known, F_law_known.kp, (F_law_known.binds (ps := []) fun _ _ _ _ _ _ us hl => match us, hl with | [], _ => rfl)⟩
  have c_law_deck : Cal P w K mg base CX0 "_law_deck" 1 ["_law_cell", "_law_turn"] sp_law_deck := ⟨f_law_deck, fd_law_deck, ok_law_deck  F_law_deck, PySem.W.mg_of KX G a_law_deck, F_law_deck.kp, (F_law_deck.binds (ps := ["_law_cell", "_law_turn"]) fun _ _ _ _ _ _ us hl => match us, hl with | [_, _], _ => rfl)⟩
  have c_law_pick : Cal P w K mg base CX0 "_law_pick" 1 ["_law_deck_here", "_law_size"] sp_law_pick := ⟨f_law_pick, fd_law_pick, ok_law_pick A.m_int F_law_pick, PySem.W.mg_of KX G a_law_pick, F_law_pick.kp, (F_law_pick.binds (ps := ["_law_deck_here", "_law_size"]) fun _ _ _ _ _ _ us hl => match us, hl with | [_, _], _ => rfl)⟩
  have c_law_one : Cal P w K mg base CX0 "_law_one" 2 ["_law_deck_here", "_law_some"] sp_law_one := ⟨f_law_one, fd_law_one, ok_law_one c_law_pick A.m_len F_law_one, PySem.W.mg_of KX G a_law_one, F_law_one.kp, (F_law_one.binds (ps := ["_law_deck_here", "_law_some"]) fun _ _ _ _ _ _ us hl => match us, hl with | [_, _], _ => rfl)⟩
  have c_law_warm : Cal P w K mg base CX0 "_law_warm" 3 ["_law_deck_here"] sp_law_warm := ⟨f_law_warm, fd_law_warm, ok_law_warm c_law_one F_law_warm, PySem.W.mg_of KX G a_law_warm, F_law_warm.kp, (F_law_warm.binds (ps := ["_law_deck_here"]) fun _ _ _ _ _ _ us hl => match us, hl with | [_], _ => rfl)⟩
  have c_law_tried : Cal P w K mg base CX0 "_law_tried" 3 ["_law_deck_here"] sp_law_tried := ⟨f_law_tried, fd_law_tried, ok_law_tried c_law_one c_law_pick F_law_tried, PySem.W.mg_of KX G a_law_tried, F_law_tried.kp, (F_law_tried.binds (ps := ["_law_deck_here"]) fun _ _ _ _ _ _ us hl => match us, hl with | [_], _ => rfl)⟩
  have c_law_book : Cal P w K mg base CX0 "_law_book" 4 ["_law_deck_here", "_law_most"] sp_law_book := ⟨f_law_book, fd_law_book, ok_law_book c_law_pick c_law_tried A.m_range F_law_book, PySem.W.mg_of KX G a_law_book, F_law_book.kp, (F_law_book.binds (ps := ["_law_deck_here", "_law_most"]) fun _ _ _ _ _ _ us hl => match us, hl with | [_, _], _ => rfl)⟩
  have c_law_house : Cal P w K mg base CX0 "_law_house" 5 ["_law_deck_here", "_law_most", "_law_pages"] sp_law_house := ⟨f_law_house, fd_law_house, ok_law_house c_law_one c_law_pick c_law_warm c_law_book A.m_tuple A.m_range A.m_sorted F_law_house, PySem.W.mg_of KX G a_law_house, F_law_house.kp, (F_law_house.binds (ps := ["_law_deck_here", "_law_most", "_law_pages"]) fun _ _ _ _ _ _ us hl => match us, hl with | [_, _, _], _ => rfl)⟩
  have c_law_level : Cal P w K mg base CX0 "_law_level" 1 ["_law_warm_here"] sp_law_level := ⟨f_law_level, fd_law_level, ok_law_level  F_law_level, PySem.W.mg_of KX G a_law_level, F_law_level.kp, (F_law_level.binds (ps := ["_law_warm_here"]) fun _ _ _ _ _ _ us hl => match us, hl with | [_], _ => rfl)⟩
  have c_law_begin : Cal P w K mg base CX0 "_law_begin" 2 ["_law_start"] sp_law_begin := ⟨f_law_begin, fd_law_begin, ok_law_begin c_law_level F_law_begin, PySem.W.mg_of KX G a_law_begin, F_law_begin.kp, (F_law_begin.binds (ps := ["_law_start"]) fun _ _ _ _ _ _ us hl => match us, hl with | [_], _ => rfl)⟩
  have c_law_frac : Cal P w K mg base CX0 "_law_frac" 1 ["_law_top", "_law_below"] sp_law_frac := ⟨f_law_frac, fd_law_frac, ok_law_frac  F_law_frac, PySem.W.mg_of KX G a_law_frac, F_law_frac.kp, (F_law_frac.binds (ps := ["_law_top", "_law_below"]) fun _ _ _ _ _ _ us hl => match us, hl with | [_, _], _ => rfl)⟩
  have c_law_starts : Cal P w K mg base CX0 "_law_starts" 2 ["_law_house_here"] sp_law_starts := ⟨f_law_starts, fd_law_starts, ok_law_starts c_law_frac A.m_range F_law_starts, PySem.W.mg_of KX G a_law_starts, F_law_starts.kp, (F_law_starts.binds (ps := ["_law_house_here"]) fun _ _ _ _ _ _ us hl => match us, hl with | [_], _ => rfl)⟩
  have c_law_set : Cal P w K mg base CX0 "_law_set" 1 ["_law_devices", "_law_deed"] sp_law_set := ⟨f_law_set, fd_law_set, ok_law_set  F_law_set, PySem.W.mg_of KX G a_law_set, F_law_set.kp, (F_law_set.binds (ps := ["_law_devices", "_law_deed"]) fun _ _ _ _ _ _ us hl => match us, hl with | [_, _], _ => rfl)⟩
  have c_law_looks : Cal P w K mg base CX0 "_law_looks" 1 ["_law_house_here", "_law_stand", "_law_who"] sp_law_looks := ⟨f_law_looks, fd_law_looks, ok_law_looks A.m_int F_law_looks, PySem.W.mg_of KX G a_law_looks, F_law_looks.kp, (F_law_looks.binds (ps := ["_law_house_here", "_law_stand", "_law_who"]) fun _ _ _ _ _ _ us hl => match us, hl with | [_, _, _], _ => rfl)⟩
  have c_law_feel : Cal P w K mg base CX0 "_law_feel" 1 ["_law_person", "_law_level_here"] sp_law_feel := ⟨f_law_feel, fd_law_feel, ok_law_feel  F_law_feel, PySem.W.mg_of KX G a_law_feel, F_law_feel.kp, (F_law_feel.binds (ps := ["_law_person", "_law_level_here"]) fun _ _ _ _ _ _ us hl => match us, hl with | [_, _], _ => rfl)⟩
  have c_law_look : Cal P w K mg base CX0 "_law_look" 2 ["_law_house_here", "_law_stand", "_law_who"] sp_law_look := ⟨f_law_look, fd_law_look, ok_law_look c_law_set c_law_looks c_law_feel F_law_look, PySem.W.mg_of KX G a_law_look, F_law_look.kp, (F_law_look.binds (ps := ["_law_house_here", "_law_stand", "_law_who"]) fun _ _ _ _ _ _ us hl => match us, hl with | [_, _, _], _ => rfl)⟩
  have c_law_period : Cal P w K mg base CX0 "_law_period" 1 ["_law_house_here"] sp_law_period := ⟨f_law_period, fd_law_period, ok_law_period  F_law_period, PySem.W.mg_of KX G a_law_period, F_law_period.kp, (F_law_period.binds (ps := ["_law_house_here"]) fun _ _ _ _ _ _ us hl => match us, hl with | [_], _ => rfl)⟩
  have c_law_gain : Cal P w K mg base CX0 "_law_gain" 1 ["_law_house_here", "_law_stand", "_law_weather"] sp_law_gain := ⟨f_law_gain, fd_law_gain, ok_law_gain  F_law_gain, PySem.W.mg_of KX G a_law_gain, F_law_gain.kp, (F_law_gain.binds (ps := ["_law_house_here", "_law_stand", "_law_weather"]) fun _ _ _ _ _ _ us hl => match us, hl with | [_, _, _], _ => rfl)⟩
  have c_law_warmed : Cal P w K mg base CX0 "_law_warmed" 2 ["_law_house_here", "_law_stand", "_law_weather"] sp_law_warmed := ⟨f_law_warmed, fd_law_warmed, ok_law_warmed c_law_period c_law_gain A.m_min A.m_max A.m_int F_law_warmed, PySem.W.mg_of KX G a_law_warmed, F_law_warmed.kp, (F_law_warmed.binds (ps := ["_law_house_here", "_law_stand", "_law_weather"]) fun _ _ _ _ _ _ us hl => match us, hl with | [_, _, _], _ => rfl)⟩
  have c_law_tick : Cal P w K mg base CX0 "_law_tick" 3 ["_law_house_here", "_law_stand", "_law_weather"] sp_law_tick := ⟨f_law_tick, fd_law_tick, ok_law_tick c_law_look c_law_warmed F_law_tick, PySem.W.mg_of KX G a_law_tick, F_law_tick.kp, (F_law_tick.binds (ps := ["_law_house_here", "_law_stand", "_law_weather"]) fun _ _ _ _ _ _ us hl => match us, hl with | [_, _, _], _ => rfl)⟩
  have c_law_graph : Cal P w K mg base CX0 "_law_graph" 4 ["_law_house_here"] sp_law_graph := ⟨f_law_graph, fd_law_graph, ok_law_graph c_law_begin c_law_starts c_law_tick F_law_graph, PySem.W.mg_of KX G a_law_graph, F_law_graph.kp, (F_law_graph.binds (ps := ["_law_house_here"]) fun _ _ _ _ _ _ us hl => match us, hl with | [_], _ => rfl)⟩
  have c_law_sort : Cal P w K mg base CX0 "_law_sort" 1 ["_law_thing"] sp_law_sort := ⟨f_law_sort, fd_law_sort, ok_law_sort A.m_isinstance A.m_bool A.m_int A.m_str A.m_list A.m_tuple F_law_sort, PySem.W.mg_of KX G a_law_sort, F_law_sort.kp, (F_law_sort.binds (ps := ["_law_thing"]) fun _ _ _ _ _ _ us hl => match us, hl with | [_], _ => rfl)⟩
  have c_s1 : Cal P w K mg base CX0 "_law_same" 1 ["_law_told", "_law_due"] sp_never := ⟨f_law_same, fd_law_same, never_ok, PySem.W.mg_of KX G a_law_same, F_law_same.kp, (F_law_same.binds (ps := ["_law_told", "_law_due"]) fun _ _ _ _ _ _ us hl => match us, hl with | [_, _], _ => rfl)⟩
  have c_s2 : Cal P w K mg base CX0 "_law_same" 2 ["_law_told", "_law_due"] sp_law_same0 := ⟨f_law_same, fd_law_same, ok_law_same0 c_law_sort A.m_len A.m_enumerate c_s1 F_law_same, PySem.W.mg_of KX G a_law_same, F_law_same.kp, (F_law_same.binds (ps := ["_law_told", "_law_due"]) fun _ _ _ _ _ _ us hl => match us, hl with | [_, _], _ => rfl)⟩
  have c_law_same : Cal P w K mg base CX0 "_law_same" 3 ["_law_told", "_law_due"] sp_law_same := ⟨f_law_same, fd_law_same, ok_law_same c_law_sort A.m_len A.m_enumerate c_s2 F_law_same, PySem.W.mg_of KX G a_law_same, F_law_same.kp, (F_law_same.binds (ps := ["_law_told", "_law_due"]) fun _ _ _ _ _ _ us hl => match us, hl with | [_, _], _ => rfl)⟩
  have c_is_within : Cal P w K mg base CX0 "is_within" 1 ["value", "low", "high"] sp_is_within := ⟨f_is_within, fd_is_within, ok_is_within A.m_isinstance A.m_int A.m_bool F_is_within, PySem.W.mg_of KX G a_is_within, F_is_within.kp, (F_is_within.binds (ps := ["value", "low", "high"]) fun _ _ _ _ _ _ us hl => match us, hl with | [_, _, _], _ => rfl)⟩
  have c_is_room_value : Cal P w K mg base CX0 "is_room_value" 2 ["value"] sp_is_room_value := ⟨f_is_room_value, fd_is_room_value, ok_is_room_value c_is_within A.m_all A.m_isinstance A.m_len A.m_tuple F_is_room_value, PySem.W.mg_of KX G a_is_room_value, F_is_room_value.kp, (F_is_room_value.binds (ps := ["value"]) fun _ _ _ _ _ _ us hl => match us, hl with | [_], _ => rfl)⟩
  have c_is_word : Cal P w K mg base CX0 "is_word" 1 ["value", "words"] sp_is_word := ⟨f_is_word, fd_is_word, ok_is_word A.m_isinstance A.m_str F_is_word, PySem.W.mg_of KX G a_is_word, F_is_word.kp, (F_is_word.binds (ps := ["value", "words"]) fun _ _ _ _ _ _ us hl => match us, hl with | [_, _], _ => rfl)⟩
  have c_is_tries : Cal P w K mg base CX0 "is_tries" 2 ["value"] sp_is_tries := ⟨f_is_tries, fd_is_tries, ok_is_tries c_is_word A.m_isinstance A.m_len A.m_all A.m_tuple A.k_DEEDS F_is_tries, PySem.W.mg_of KX G a_is_tries, F_is_tries.kp, (F_is_tries.binds (ps := ["value"]) fun _ _ _ _ _ _ us hl => match us, hl with | [_], _ => rfl)⟩
  have c_is_line : Cal P w K mg base CX0 "is_line" 3 ["value", "many"] sp_is_line := ⟨f_is_line, fd_is_line, ok_is_line c_is_within c_is_tries A.m_isinstance A.m_len A.m_tuple F_is_line, PySem.W.mg_of KX G a_is_line, F_is_line.kp, (F_is_line.binds (ps := ["value", "many"]) fun _ _ _ _ _ _ us hl => match us, hl with | [_, _], _ => rfl)⟩
  have c_is_book_value : Cal P w K mg base CX0 "is_book_value" 4 ["value"] sp_is_book_value := ⟨f_is_book_value, fd_is_book_value, ok_is_book_value c_is_line A.m_isinstance A.m_tuple A.m_len A.m_all A.k_MOST_PAGES F_is_book_value, PySem.W.mg_of KX G a_is_book_value, F_is_book_value.kp, (F_is_book_value.binds (ps := ["value"]) fun _ _ _ _ _ _ us hl => match us, hl with | [_], _ => rfl)⟩
  have c_is_person_value : Cal P w K mg base CX0 "is_person_value" 5 ["value", "top"] sp_is_person_value := ⟨f_is_person_value, fd_is_person_value, ok_is_person_value c_is_book_value c_is_within A.m_isinstance A.m_len A.m_tuple F_is_person_value, PySem.W.mg_of KX G a_is_person_value, F_is_person_value.kp, (F_is_person_value.binds (ps := ["value", "top"]) fun _ _ _ _ _ _ us hl => match us, hl with | [_, _], _ => rfl)⟩
  have c_is_house_value : Cal P w K mg base CX0 "is_house_value" 6 ["value"] sp_is_house_value := ⟨f_is_house_value, fd_is_house_value, ok_is_house_value c_is_room_value c_is_person_value c_is_word A.m_isinstance A.m_all A.m_len A.m_list A.m_sorted A.m_tuple A.m_set A.k_WEATHERS F_is_house_value, PySem.W.mg_of KX G a_is_house_value, F_is_house_value.kp, (F_is_house_value.binds (ps := ["value"]) fun _ _ _ _ _ _ us hl => match us, hl with | [_], _ => rfl)⟩
  have c_need_house : Cal P w K mg base CX0 "need_house" 7 ["value"] sp_need_house := ⟨f_need_house, fd_need_house, ok_need_house c_is_house_value F_need_house, PySem.W.mg_of KX G a_need_house, F_need_house.kp, (F_need_house.binds (ps := ["value"]) fun _ _ _ _ _ _ us hl => match us, hl with | [_], _ => rfl)⟩
  have c_level_of : Cal P w K mg base CX0 "level_of" 1 ["warmth"] sp_level_of := ⟨f_level_of, fd_level_of, ok_level_of A.m_int F_level_of, PySem.W.mg_of KX G a_level_of, F_level_of.kp, (F_level_of.binds (ps := ["warmth"]) fun _ _ _ _ _ _ us hl => match us, hl with | [_], _ => rfl)⟩
  have c_begun : Cal P w K mg base CX0 "begun" 2 ["house", "start"] sp_begun := ⟨f_begun, fd_begun, ok_begun c_level_of F_begun, PySem.W.mg_of KX G a_begun, F_begun.kp, (F_begun.binds (ps := ["house", "start"]) fun _ _ _ _ _ _ us hl => match us, hl with | [_, _], _ => rfl)⟩
  have c_divisor : Cal P w K mg base CX0 "divisor" 1 ["one", "other"] sp_divisor := ⟨f_divisor, fd_divisor, ok_divisor  F_divisor, PySem.W.mg_of KX G a_divisor, F_divisor.kp, (F_divisor.binds (ps := ["one", "other"]) fun _ _ _ _ _ _ us hl => match us, hl with | [_, _], _ => rfl)⟩
  have c_lowest : Cal P w K mg base CX0 "lowest" 2 ["top", "below"] sp_lowest := ⟨f_lowest, fd_lowest, ok_lowest c_divisor F_lowest, PySem.W.mg_of KX G a_lowest, F_lowest.kp, (F_lowest.binds (ps := ["top", "below"]) fun _ _ _ _ _ _ us hl => match us, hl with | [_, _], _ => rfl)⟩
  have c_warmth_of : Cal P w K mg base CX0 "warmth_of" 3 ["level"] sp_warmth_of := ⟨f_warmth_of, fd_warmth_of, ok_warmth_of c_lowest F_warmth_of, PySem.W.mg_of KX G a_warmth_of, F_warmth_of.kp, (F_warmth_of.binds (ps := ["level"]) fun _ _ _ _ _ _ us hl => match us, hl with | [_], _ => rfl)⟩
  have c_starts_of : Cal P w K mg base CX0 "starts_of" 4 ["house"] sp_starts_of := ⟨f_starts_of, fd_starts_of, ok_starts_of c_warmth_of A.m_range F_starts_of, PySem.W.mg_of KX G a_starts_of, F_starts_of.kp, (F_starts_of.binds (ps := ["house"]) fun _ _ _ _ _ _ us hl => match us, hl with | [_], _ => rfl)⟩
  have c_changed : Cal P w K mg base CX0 "changed" 1 ["devices", "deed"] sp_changed := ⟨f_changed, fd_changed, ok_changed  F_changed, PySem.W.mg_of KX G a_changed, F_changed.kp, (F_changed.binds (ps := ["devices", "deed"]) fun _ _ _ _ _ _ us hl => match us, hl with | [_, _], _ => rfl)⟩
  have c_first_change : Cal P w K mg base CX0 "first_change" 2 ["devices", "sought"] sp_first_change := ⟨f_first_change, fd_first_change, ok_first_change c_changed F_first_change, PySem.W.mg_of KX G a_first_change, F_first_change.kp, (F_first_change.binds (ps := ["devices", "sought"]) fun _ _ _ _ _ _ us hl => match us, hl with | [_, _], _ => rfl)⟩
  have c_looks : Cal P w K mg base CX0 "looks" 1 ["house", "stand", "who"] sp_looks := ⟨f_looks, fd_looks, ok_looks  F_looks, PySem.W.mg_of KX G a_looks, F_looks.kp, (F_looks.binds (ps := ["house", "stand", "who"]) fun _ _ _ _ _ _ us hl => match us, hl with | [_, _, _], _ => rfl)⟩
  have c_feeling_of : Cal P w K mg base CX0 "feeling_of" 1 ["person", "level"] sp_feeling_of := ⟨f_feeling_of, fd_feeling_of, ok_feeling_of  F_feeling_of, PySem.W.mg_of KX G a_feeling_of, F_feeling_of.kp, (F_feeling_of.binds (ps := ["person", "level"]) fun _ _ _ _ _ _ us hl => match us, hl with | [_, _], _ => rfl)⟩
  have c_looked : Cal P w K mg base CX0 "looked" 3 ["house", "stand", "who"] sp_looked := ⟨f_looked, fd_looked, ok_looked c_first_change c_changed c_looks c_feeling_of F_looked, PySem.W.mg_of KX G a_looked, F_looked.kp, (F_looked.binds (ps := ["house", "stand", "who"]) fun _ _ _ _ _ _ us hl => match us, hl with | [_, _, _], _ => rfl)⟩
  have c_change_of : Cal P w K mg base CX0 "change_of" 1 ["house", "stand", "weather"] sp_change_of := ⟨f_change_of, fd_change_of, ok_change_of A.m_int F_change_of, PySem.W.mg_of KX G a_change_of, F_change_of.kp, (F_change_of.binds (ps := ["house", "stand", "weather"]) fun _ _ _ _ _ _ us hl => match us, hl with | [_, _, _], _ => rfl)⟩
  have c_period_of : Cal P w K mg base CX0 "period_of" 1 ["house"] sp_period_of := ⟨f_period_of, fd_period_of, ok_period_of A.m_max F_period_of, PySem.W.mg_of KX G a_period_of, F_period_of.kp, (F_period_of.binds (ps := ["house"]) fun _ _ _ _ _ _ us hl => match us, hl with | [_], _ => rfl)⟩
  have c_passed : Cal P w K mg base CX0 "passed" 2 ["house", "stand", "weather"] sp_passed := ⟨f_passed, fd_passed, ok_passed c_change_of c_period_of A.m_min A.m_max F_passed, PySem.W.mg_of KX G a_passed, F_passed.kp, (F_passed.binds (ps := ["house", "stand", "weather"]) fun _ _ _ _ _ _ us hl => match us, hl with | [_, _, _], _ => rfl)⟩
  have c_step : Cal P w K mg base CX0 "step" 4 ["house", "stand", "weather"] sp_step := ⟨f_step, fd_step, ok_step c_looked c_passed F_step, PySem.W.mg_of KX G a_step, F_step.kp, (F_step.binds (ps := ["house", "stand", "weather"]) fun _ _ _ _ _ _ us hl => match us, hl with | [_, _, _], _ => rfl)⟩
  have c_graph_of : Cal P w K mg base CX0 "graph_of" 5 ["house"] sp_graph_of := ⟨f_graph_of, fd_graph_of, ok_graph_of c_begun c_starts_of c_step A.m_len F_graph_of, PySem.W.mg_of KX G a_graph_of, F_graph_of.kp, (F_graph_of.binds (ps := ["house"]) fun _ _ _ _ _ _ us hl => match us, hl with | [_], _ => rfl)⟩
  have c_reached : Cal P w K mg base CX0 "reached" 1 ["graph", "first"] sp_reached := ⟨f_reached, fd_reached, ok_reached A.m_len F_reached, PySem.W.mg_of KX G a_reached, F_reached.kp, (F_reached.binds (ps := ["graph", "first"]) fun _ _ _ _ _ _ us hl => match us, hl with | [_, _], _ => rfl)⟩
  have c_sets_device : Cal P w K mg base CX0 "sets_device" 1 ["row", "who", "device"] sp_sets_device := ⟨f_sets_device, fd_sets_device, ok_sets_device  F_sets_device, PySem.W.mg_of KX G a_sets_device, F_sets_device.kp, (F_sets_device.binds (ps := ["row", "who", "device"]) fun _ _ _ _ _ _ us hl => match us, hl with | [_, _, _], _ => rfl)⟩
  have c_round_by : Cal P w K mg base CX0 "round_by" 2 ["graph", "ways", "stand", "row", "device"] sp_round_by := ⟨f_round_by, fd_round_by, ok_round_by c_sets_device F_round_by, PySem.W.mg_of KX G a_round_by, F_round_by.kp, (F_round_by.binds (ps := ["graph", "ways", "stand", "row", "device"]) fun _ _ _ _ _ _ us hl => match us, hl with | [_, _, _, _, _], _ => rfl)⟩
  have c_ring_with : Cal P w K mg base CX0 "ring_with" 6 ["house", "device"] sp_ring_with := ⟨f_ring_with, fd_ring_with, ok_ring_with c_graph_of c_reached c_sets_device c_round_by F_ring_with, PySem.W.mg_of KX G a_ring_with, F_ring_with.kp, (F_ring_with.binds (ps := ["house", "device"]) fun _ _ _ _ _ _ us hl => match us, hl with | [_, _], _ => rfl)⟩
  have c_start_to : Cal P w K mg base CX0 "start_to" 5 ["house", "stand"] sp_start_to := ⟨f_start_to, fd_start_to, ok_start_to c_begun c_starts_of c_step A.m_len F_start_to, PySem.W.mg_of KX G a_start_to, F_start_to.kp, (F_start_to.binds (ps := ["house", "stand"]) fun _ _ _ _ _ _ us hl => match us, hl with | [_, _], _ => rfl)⟩
  have c_fight_ring : Cal P w K mg base CX0 "fight_ring" 8 ["house", "device"] sp_fight_ring := ⟨f_fight_ring, fd_fight_ring, ok_fight_ring c_need_house c_ring_with c_is_word c_start_to A.k_DEVICES F_fight_ring, PySem.W.mg_of KX G a_fight_ring, F_fight_ring.kp, (F_fight_ring.binds (ps := ["house", "device"]) fun _ _ _ _ _ _ us hl => match us, hl with | [_, _], _ => rfl)⟩
  have c_fights : Cal P w K mg base CX0 "fights" 8 ["house"] sp_fights := ⟨f_fights, fd_fights, ok_fights c_need_house c_ring_with A.k_DEVICES F_fights, PySem.W.mg_of KX G a_fights, F_fights.kp, (F_fights.binds (ps := ["house"]) fun _ _ _ _ _ _ us hl => match us, hl with | [_], _ => rfl)⟩
  have c_law_setters : Cal P w K mg base CX0 "_law_setters" 1 ["_law_graph_here", "_law_who", "_law_device"] sp_law_setters := ⟨f_law_setters, fd_law_setters, ok_law_setters  F_law_setters, PySem.W.mg_of KX G a_law_setters, F_law_setters.kp, (F_law_setters.binds (ps := ["_law_graph_here", "_law_who", "_law_device"]) fun _ _ _ _ _ _ us hl => match us, hl with | [_, _, _], _ => rfl)⟩
  have c_law_after : Cal P w K mg base CX0 "_law_after" 1 ["_law_graph_here", "_law_stand"] sp_law_after := ⟨f_law_after, fd_law_after, ok_law_after  F_law_after, PySem.W.mg_of KX G a_law_after, F_law_after.kp, (F_law_after.binds (ps := ["_law_graph_here", "_law_stand"]) fun _ _ _ _ _ _ us hl => match us, hl with | [_, _], _ => rfl)⟩
  have c_law_fought : Cal P w K mg base CX0 "_law_fought" 2 ["_law_graph_here", "_law_device"] sp_law_fought := ⟨f_law_fought, fd_law_fought, ok_law_fought c_law_setters c_law_after F_law_fought, PySem.W.mg_of KX G a_law_fought, F_law_fought.kp, (F_law_fought.binds (ps := ["_law_graph_here", "_law_device"]) fun _ _ _ _ _ _ us hl => match us, hl with | [_, _], _ => rfl)⟩
  have c_is_warmth : Cal P w K mg base CX0 "is_warmth" 2 ["room", "value"] sp_is_warmth := ⟨f_is_warmth, fd_is_warmth, ok_is_warmth c_is_within c_divisor A.m_isinstance A.m_len A.m_tuple F_is_warmth, PySem.W.mg_of KX G a_is_warmth, F_is_warmth.kp, (F_is_warmth.binds (ps := ["room", "value"]) fun _ _ _ _ _ _ us hl => match us, hl with | [_, _], _ => rfl)⟩
  have c_is_start_value : Cal P w K mg base CX0 "is_start_value" 3 ["house", "value"] sp_is_start_value := ⟨f_is_start_value, fd_is_start_value, ok_is_start_value c_is_warmth A.m_isinstance A.m_len A.m_bool A.m_tuple F_is_start_value, PySem.W.mg_of KX G a_is_start_value, F_is_start_value.kp, (F_is_start_value.binds (ps := ["house", "value"]) fun _ _ _ _ _ _ us hl => match us, hl with | [_, _], _ => rfl)⟩
  have c_is_start : Cal P w K mg base CX0 "is_start" 8 ["house", "value"] sp_is_start := ⟨f_is_start, fd_is_start, ok_is_start c_need_house c_is_start_value F_is_start, PySem.W.mg_of KX G a_is_start, F_is_start.kp, (F_is_start.binds (ps := ["house", "value"]) fun _ _ _ _ _ _ us hl => match us, hl with | [_, _], _ => rfl)⟩
  have c_law_led : Cal P w K mg base CX0 "_law_led" 4 ["_law_house_here", "_law_start", "_law_run"] sp_law_led := ⟨f_law_led, fd_law_led, ok_law_led c_law_begin c_law_tick c_law_frac c_law_gain A.m_max F_law_led, PySem.W.mg_of KX G a_law_led, F_law_led.kp, (F_law_led.binds (ps := ["_law_house_here", "_law_start", "_law_run"]) fun _ _ _ _ _ _ us hl => match us, hl with | [_, _, _], _ => rfl)⟩
  have c_law_ring_right : Cal P w K mg base CX0 "_law_ring_right" 9 ["_law_house_here", "_law_device", "_law_told"] sp_law_ring_right := ⟨f_law_ring_right, fd_law_ring_right, ok_law_ring_right c_law_tick c_is_start c_law_led F_law_ring_right, PySem.W.mg_of KX G a_law_ring_right, F_law_ring_right.kp, (F_law_ring_right.binds (ps := ["_law_house_here", "_law_device", "_law_told"]) fun _ _ _ _ _ _ us hl => match us, hl with | [_, _, _], _ => rfl)⟩
  exact ok_law c_law_known c_law_deck c_law_house c_law_graph c_law_same c_fight_ring c_fights c_law_fought c_law_ring_right A.m_isinstance A.m_tuple (ok_fight_oddN c_need_house c_ring_with c_is_word c_start_to A.k_DEVICES A.xf F_fight_ring) (PySem.W.mg_of KX G a_fight_ring) F_fight_ring.kp (F_fight_ring.binds (ps := ["house", "device"]) fun _ _ _ _ _ _ us hl => match us, hl with | [_, _], _ => rfl) A.kf F_law_try (PySem.W.mg_of KX G a_law_try) (F_law_try.binds (ps := ["_law_call_so"]) fun _ _ _ _ _ _ us hl => match us, hl with | [_], _ => rfl) TB F
theorem withD {K : PySem.W.Frag} {h : Heap} {x : Str} {st : Stmt} {Goal : Prop} {f : Addr} {oc : Value} {od an : Option Addr} {osl : Array (Option Value)} {kV doc pm cdv ct : Value} (KX : K.In h) (a : PySem.W.nsIn K mainGlobals x = some (some (.ref f)))
    (l : K.lookup f = some ⟨oc, od, .func (PySem.W.fnOf x x (defArgs st) (defBody st) (defScope st) .none kV doc pm an cdv ct), osl⟩) (c : PySem.W.codeIn K cdv x = true) (k : PySem.W.keepIn K (.ref f) = true) (next : DefS K x st → Goal) : Goal := next (defs_mk a l c k)
theorem withM {K : PySem.W.Frag} {h : Heap} {mg : Str → Option Value} {x : Str} {Goal : Prop} (KX : K.In h) (G : h.Ns mainGlobals mg) (z : PySem.W.nsIn K mainGlobals x = some none) (next : mg x = none → Goal) : Goal := next (PySem.W.mg_none_of KX G z)
theorem withS {K : PySem.W.Frag} {h : Heap} {mg : Str → Option Value} {x : Str} {ws : List Str} {Goal : Prop} {a : Addr} {od : Option Addr} {its : Array Value} {n : Nat} {sl : Array (Option Value)} (KX : K.In h) (G : h.Ns mainGlobals mg) (aa : PySem.W.nsIn K mainGlobals x = some (some (.ref a))) (l : K.lookup a = some ⟨.type "tuple", od, .seq its n, sl⟩)
    (hz : its.size ≤ sizeLine) (hv : Vals (ws.map V.str) its.toList) (next : Con mg K x (.tup (ws.map D.str)) → Goal) : Goal := next (con_strs (PySem.W.mg_of KX G aa) l rfl rfl hz hv)
theorem withI {K : PySem.W.Frag} {h : Heap} {mg : Str → Option Value} {x : Str} {i : Int} {t : Tok} {Goal : Prop} (KX : K.In h) (G : h.Ns mainGlobals mg) (aa : PySem.W.nsIn K mainGlobals x = some (some (.int i t))) (next : Con mg K x (.int i) → Goal) : Goal := next (con_int (PySem.W.mg_of KX G aa))
theorem withG {K : PySem.W.Frag} {h : Heap} {mg : Str → Option Value} {x : Str} {c : Addr} {Goal : Prop} (KX : K.In h) (G : h.Ns mainGlobals mg) (aa : PySem.W.nsIn K mainGlobals x = some (some (.ref c))) (next : mg x = some (.ref c) → Goal) : Goal := next (PySem.W.mg_of KX G aa)
theorem withK {K : PySem.W.Frag} {h : Heap} {mg : Str → Option Value} {x : Str} {c D : Addr} {b : Bool} {Goal : Prop} (KX : K.In h) (G : h.Ns mainGlobals mg) (gD : mg "InvalidWord" = some (.ref D)) (aa : PySem.W.nsIn K mainGlobals x = some (some (.ref c))) (kit : PySem.W.kitOne K (.ref D) (.ref c) = some b) (next : Kd K mg D x b → Goal) : Goal := next (kd_mk (PySem.W.mg_of KX G aa) kit)
theorem withF {K : PySem.W.Frag} {h : Heap} {Goal : Prop} (KX : K.In h) (p : Prop) (hp : p) (next : p → Goal) : Goal := next hp
theorem law_at {l : PySem.W.OpenLaw} {w : World} {K : PySem.W.Frag} {mg : Str → Option Value} {h : Heap} {C c P0 f fa : Addr} {n : Nat} {od an : Option Addr} {osl : Array (Option Value)} {oc kV doc pm ct : Value} (hn : n ≤ 1000000) (A : AllS K mg C) (KX : K.In h) (G : h.Ns mainGlobals mg) (hfa : mg "law" = some (.ref fa))
    (hT : ∀ P ∈ [P0], h.get? P = some (PySem.W.tabObj #[])) (a : PySem.W.nsIn K mainGlobals "law" = some (some (.ref f))) (lk : K.lookup f = some ⟨oc, od, .func (PySem.W.fnOf "law" "law" (defArgs s_law) (defBody s_law) (defScope s_law) .none kV doc pm an (.ref c) ct), osl⟩) (hc : PySem.W.codeIn K (.ref c) "law" = true)
    (hd : PySem.W.codeHdIn K c P0 = true) (nP : K.lookup P0 = none) : LawAtS l w K L2.CX0 11 n "_law_script" mg fa h := by
  have e := hfa.symm.trans (PySem.W.mg_of KX G a)
  cases e
  refine ⟨_, [(c, P0)], spLaw K P0, fun p hp => ?_, fun p hp => ?_, fun p hp => ?_, fun s u => .of_eq rfl, fun H a ns hl _ hH hS => ⟨a, ns, rfl, Nat.le_trans hl hn, hH _ List.mem_cons_self, hS, fun _ => rfl⟩, fun base KB GB TB => all_law A KB GB (TB _ List.mem_cons_self) ⟨oc, od, kV, doc, pm, an, ct, osl, rfl, lk, hc⟩⟩
  · rw [(List.mem_singleton.mp hp)]
    exact hT P0 List.mem_cons_self
  · rw [(List.mem_singleton.mp hp)]
    exact nP
  · rw [(List.mem_singleton.mp hp)]
    exact PySem.W.codeHd_of_K KX hd
end L3
open PySem PySem.W PyProof.Rows
set_option maxHeartbeats 0 in
theorem PySem.Challenge.cw_roomfeud_k06_whole_fights_holds : PySem.Challenge.rw_roomfeud_k06_whole_fights.Holds := by
  w_on; o_law; k_head; (case hw => w_witness2)
  k_fill
  refine LamX.walk_ofTs (l := PySem.Challenge.rw_roomfeud_k06_whole_fights) (n := 63) (k := 11) (x := "_law_script") (CX := fun _ => L2.CX0) rfl (by decide) rfl ⟨rfl, by decide, by decide⟩ (fun w h Y => PySem.W.km_in_of Y) ?F (fun _ _ _ _ _ h => h)
  case F =>
    intro w mg fa h Y KX G hmg
    refine' L3.withD (x := "_law_known") (st := L3.s_law_known) KX ?a ?l ?c ?k fun d_law_known => ?_; (case a => k_is); (case l => k_is); (case c => k_is); (case k => k_is)
    refine' L3.withD (x := "_law_deck") (st := L3.s_law_deck) KX ?a ?l ?c ?k fun d_law_deck => ?_; (case a => k_is); (case l => k_is); (case c => k_is); (case k => k_is)
    refine' L3.withD (x := "_law_pick") (st := L3.s_law_pick) KX ?a ?l ?c ?k fun d_law_pick => ?_; (case a => k_is); (case l => k_is); (case c => k_is); (case k => k_is)
    refine' L3.withD (x := "_law_one") (st := L3.s_law_one) KX ?a ?l ?c ?k fun d_law_one => ?_; (case a => k_is); (case l => k_is); (case c => k_is); (case k => k_is)
    refine' L3.withD (x := "_law_warm") (st := L3.s_law_warm) KX ?a ?l ?c ?k fun d_law_warm => ?_; (case a => k_is); (case l => k_is); (case c => k_is); (case k => k_is)
    refine' L3.withD (x := "_law_tried") (st := L3.s_law_tried) KX ?a ?l ?c ?k fun d_law_tried => ?_; (case a => k_is); (case l => k_is); (case c => k_is); (case k => k_is)
    refine' L3.withD (x := "_law_book") (st := L3.s_law_book) KX ?a ?l ?c ?k fun d_law_book => ?_; (case a => k_is); (case l => k_is); (case c => k_is); (case k => k_is)
    refine' L3.withD (x := "_law_house") (st := L3.s_law_house) KX ?a ?l ?c ?k fun d_law_house => ?_; (case a => k_is); (case l => k_is); (case c => k_is); (case k => k_is)
    refine' L3.withD (x := "_law_level") (st := L3.s_law_level) KX ?a ?l ?c ?k fun d_law_level => ?_; (case a => k_is); (case l => k_is); (case c => k_is); (case k => k_is)
    refine' L3.withD (x := "_law_begin") (st := L3.s_law_begin) KX ?a ?l ?c ?k fun d_law_begin => ?_; (case a => k_is); (case l => k_is); (case c => k_is); (case k => k_is)
    refine' L3.withD (x := "_law_frac") (st := L3.s_law_frac) KX ?a ?l ?c ?k fun d_law_frac => ?_; (case a => k_is); (case l => k_is); (case c => k_is); (case k => k_is)
    refine' L3.withD (x := "_law_starts") (st := L3.s_law_starts) KX ?a ?l ?c ?k fun d_law_starts => ?_; (case a => k_is); (case l => k_is); (case c => k_is); (case k => k_is)
    refine' L3.withD (x := "_law_set") (st := L3.s_law_set) KX ?a ?l ?c ?k fun d_law_set => ?_; (case a => k_is); (case l => k_is); (case c => k_is); (case k => k_is)
    refine' L3.withD (x := "_law_looks") (st := L3.s_law_looks) KX ?a ?l ?c ?k fun d_law_looks => ?_; (case a => k_is); (case l => k_is); (case c => k_is); (case k => k_is)
    refine' L3.withD (x := "_law_feel") (st := L3.s_law_feel) KX ?a ?l ?c ?k fun d_law_feel => ?_; (case a => k_is); (case l => k_is); (case c => k_is); (case k => k_is)
    refine' L3.withD (x := "_law_look") (st := L3.s_law_look) KX ?a ?l ?c ?k fun d_law_look => ?_; (case a => k_is); (case l => k_is); (case c => k_is); (case k => k_is)
    refine' L3.withD (x := "_law_period") (st := L3.s_law_period) KX ?a ?l ?c ?k fun d_law_period => ?_; (case a => k_is); (case l => k_is); (case c => k_is); (case k => k_is)
    refine' L3.withD (x := "_law_gain") (st := L3.s_law_gain) KX ?a ?l ?c ?k fun d_law_gain => ?_; (case a => k_is); (case l => k_is); (case c => k_is); (case k => k_is)
    refine' L3.withD (x := "_law_warmed") (st := L3.s_law_warmed) KX ?a ?l ?c ?k fun d_law_warmed => ?_; (case a => k_is); (case l => k_is); (case c => k_is); (case k => k_is)
    refine' L3.withD (x := "_law_tick") (st := L3.s_law_tick) KX ?a ?l ?c ?k fun d_law_tick => ?_; (case a => k_is); (case l => k_is); (case c => k_is); (case k => k_is)
    refine' L3.withD (x := "_law_graph") (st := L3.s_law_graph) KX ?a ?l ?c ?k fun d_law_graph => ?_; (case a => k_is); (case l => k_is); (case c => k_is); (case k => k_is)
    refine' L3.withD (x := "_law_sort") (st := L3.s_law_sort) KX ?a ?l ?c ?k fun d_law_sort => ?_; (case a => k_is); (case l => k_is); (case c => k_is); (case k => k_is)
    refine' L3.withD (x := "_law_same") (st := L3.s_law_same) KX ?a ?l ?c ?k fun d_law_same => ?_; (case a => k_is); (case l => k_is); (case c => k_is); (case k => k_is)
    refine' L3.withD (x := "is_within") (st := L3.s_is_within) KX ?a ?l ?c ?k fun d_is_within => ?_; (case a => k_is); (case l => k_is); (case c => k_is); (case k => k_is)
    refine' L3.withD (x := "is_room_value") (st := L3.s_is_room_value) KX ?a ?l ?c ?k fun d_is_room_value => ?_; (case a => k_is); (case l => k_is); (case c => k_is); (case k => k_is)
    refine' L3.withD (x := "is_word") (st := L3.s_is_word) KX ?a ?l ?c ?k fun d_is_word => ?_; (case a => k_is); (case l => k_is); (case c => k_is); (case k => k_is)
    refine' L3.withD (x := "is_tries") (st := L3.s_is_tries) KX ?a ?l ?c ?k fun d_is_tries => ?_; (case a => k_is); (case l => k_is); (case c => k_is); (case k => k_is)
    refine' L3.withD (x := "is_line") (st := L3.s_is_line) KX ?a ?l ?c ?k fun d_is_line => ?_; (case a => k_is); (case l => k_is); (case c => k_is); (case k => k_is)
    refine' L3.withD (x := "is_book_value") (st := L3.s_is_book_value) KX ?a ?l ?c ?k fun d_is_book_value => ?_; (case a => k_is); (case l => k_is); (case c => k_is); (case k => k_is)
    refine' L3.withD (x := "is_person_value") (st := L3.s_is_person_value) KX ?a ?l ?c ?k fun d_is_person_value => ?_; (case a => k_is); (case l => k_is); (case c => k_is); (case k => k_is)
    refine' L3.withD (x := "is_house_value") (st := L3.s_is_house_value) KX ?a ?l ?c ?k fun d_is_house_value => ?_; (case a => k_is); (case l => k_is); (case c => k_is); (case k => k_is)
    refine' L3.withD (x := "need_house") (st := L3.s_need_house) KX ?a ?l ?c ?k fun d_need_house => ?_; (case a => k_is); (case l => k_is); (case c => k_is); (case k => k_is)
    refine' L3.withD (x := "level_of") (st := L3.s_level_of) KX ?a ?l ?c ?k fun d_level_of => ?_; (case a => k_is); (case l => k_is); (case c => k_is); (case k => k_is)
    refine' L3.withD (x := "begun") (st := L3.s_begun) KX ?a ?l ?c ?k fun d_begun => ?_; (case a => k_is); (case l => k_is); (case c => k_is); (case k => k_is)
    refine' L3.withD (x := "divisor") (st := L3.s_divisor) KX ?a ?l ?c ?k fun d_divisor => ?_; (case a => k_is); (case l => k_is); (case c => k_is); (case k => k_is)
    refine' L3.withD (x := "lowest") (st := L3.s_lowest) KX ?a ?l ?c ?k fun d_lowest => ?_; (case a => k_is); (case l => k_is); (case c => k_is); (case k => k_is)
    refine' L3.withD (x := "warmth_of") (st := L3.s_warmth_of) KX ?a ?l ?c ?k fun d_warmth_of => ?_; (case a => k_is); (case l => k_is); (case c => k_is); (case k => k_is)
    refine' L3.withD (x := "starts_of") (st := L3.s_starts_of) KX ?a ?l ?c ?k fun d_starts_of => ?_; (case a => k_is); (case l => k_is); (case c => k_is); (case k => k_is)
    refine' L3.withD (x := "changed") (st := L3.s_changed) KX ?a ?l ?c ?k fun d_changed => ?_; (case a => k_is); (case l => k_is); (case c => k_is); (case k => k_is)
    refine' L3.withD (x := "first_change") (st := L3.s_first_change) KX ?a ?l ?c ?k fun d_first_change => ?_; (case a => k_is); (case l => k_is); (case c => k_is); (case k => k_is)
    refine' L3.withD (x := "looks") (st := L3.s_looks) KX ?a ?l ?c ?k fun d_looks => ?_; (case a => k_is); (case l => k_is); (case c => k_is); (case k => k_is)
    refine' L3.withD (x := "feeling_of") (st := L3.s_feeling_of) KX ?a ?l ?c ?k fun d_feeling_of => ?_; (case a => k_is); (case l => k_is); (case c => k_is); (case k => k_is)
    refine' L3.withD (x := "looked") (st := L3.s_looked) KX ?a ?l ?c ?k fun d_looked => ?_; (case a => k_is); (case l => k_is); (case c => k_is); (case k => k_is)
    refine' L3.withD (x := "change_of") (st := L3.s_change_of) KX ?a ?l ?c ?k fun d_change_of => ?_; (case a => k_is); (case l => k_is); (case c => k_is); (case k => k_is)
    refine' L3.withD (x := "period_of") (st := L3.s_period_of) KX ?a ?l ?c ?k fun d_period_of => ?_; (case a => k_is); (case l => k_is); (case c => k_is); (case k => k_is)
    refine' L3.withD (x := "passed") (st := L3.s_passed) KX ?a ?l ?c ?k fun d_passed => ?_; (case a => k_is); (case l => k_is); (case c => k_is); (case k => k_is)
    refine' L3.withD (x := "step") (st := L3.s_step) KX ?a ?l ?c ?k fun d_step => ?_; (case a => k_is); (case l => k_is); (case c => k_is); (case k => k_is)
    refine' L3.withD (x := "graph_of") (st := L3.s_graph_of) KX ?a ?l ?c ?k fun d_graph_of => ?_; (case a => k_is); (case l => k_is); (case c => k_is); (case k => k_is)
    refine' L3.withD (x := "reached") (st := L3.s_reached) KX ?a ?l ?c ?k fun d_reached => ?_; (case a => k_is); (case l => k_is); (case c => k_is); (case k => k_is)
    refine' L3.withD (x := "sets_device") (st := L3.s_sets_device) KX ?a ?l ?c ?k fun d_sets_device => ?_; (case a => k_is); (case l => k_is); (case c => k_is); (case k => k_is)
    refine' L3.withD (x := "round_by") (st := L3.s_round_by) KX ?a ?l ?c ?k fun d_round_by => ?_; (case a => k_is); (case l => k_is); (case c => k_is); (case k => k_is)
    refine' L3.withD (x := "ring_with") (st := L3.s_ring_with) KX ?a ?l ?c ?k fun d_ring_with => ?_; (case a => k_is); (case l => k_is); (case c => k_is); (case k => k_is)
    refine' L3.withD (x := "start_to") (st := L3.s_start_to) KX ?a ?l ?c ?k fun d_start_to => ?_; (case a => k_is); (case l => k_is); (case c => k_is); (case k => k_is)
    refine' L3.withD (x := "fight_ring") (st := L3.s_fight_ring) KX ?a ?l ?c ?k fun d_fight_ring => ?_; (case a => k_is); (case l => k_is); (case c => k_is); (case k => k_is)
    refine' L3.withD (x := "fights") (st := L3.s_fights) KX ?a ?l ?c ?k fun d_fights => ?_; (case a => k_is); (case l => k_is); (case c => k_is); (case k => k_is)
    refine' L3.withD (x := "_law_setters") (st := L3.s_law_setters) KX ?a ?l ?c ?k fun d_law_setters => ?_; (case a => k_is); (case l => k_is); (case c => k_is); (case k => k_is)
    refine' L3.withD (x := "_law_after") (st := L3.s_law_after) KX ?a ?l ?c ?k fun d_law_after => ?_; (case a => k_is); (case l => k_is); (case c => k_is); (case k => k_is)
    refine' L3.withD (x := "_law_fought") (st := L3.s_law_fought) KX ?a ?l ?c ?k fun d_law_fought => ?_; (case a => k_is); (case l => k_is); (case c => k_is); (case k => k_is)
    refine' L3.withD (x := "is_warmth") (st := L3.s_is_warmth) KX ?a ?l ?c ?k fun d_is_warmth => ?_; (case a => k_is); (case l => k_is); (case c => k_is); (case k => k_is)
    refine' L3.withD (x := "is_start_value") (st := L3.s_is_start_value) KX ?a ?l ?c ?k fun d_is_start_value => ?_; (case a => k_is); (case l => k_is); (case c => k_is); (case k => k_is)
    refine' L3.withD (x := "is_start") (st := L3.s_is_start) KX ?a ?l ?c ?k fun d_is_start => ?_; (case a => k_is); (case l => k_is); (case c => k_is); (case k => k_is)
    refine' L3.withD (x := "_law_led") (st := L3.s_law_led) KX ?a ?l ?c ?k fun d_law_led => ?_; (case a => k_is); (case l => k_is); (case c => k_is); (case k => k_is)
    refine' L3.withD (x := "_law_ring_right") (st := L3.s_law_ring_right) KX ?a ?l ?c ?k fun d_law_ring_right => ?_; (case a => k_is); (case l => k_is); (case c => k_is); (case k => k_is)
    refine' L3.withD (x := "_law_try") (st := L3.s_law_try) KX ?a ?l ?c ?k fun d_law_try => ?_; (case a => k_is); (case l => k_is); (case c => k_is); (case k => k_is)
    refine' L3.withD (x := "_law_kin") (st := L3.s_law_kin) KX ?a ?l ?c ?k fun d_law_kin => ?_; (case a => k_is); (case l => k_is); (case c => k_is); (case k => k_is)
    refine' L3.withM (x := "ValueError") KX G ?z fun m_ValueError => ?_; (case z => k_is)
    refine' L3.withM (x := "all") KX G ?z fun m_all => ?_; (case z => k_is)
    refine' L3.withM (x := "bool") KX G ?z fun m_bool => ?_; (case z => k_is)
    refine' L3.withM (x := "enumerate") KX G ?z fun m_enumerate => ?_; (case z => k_is)
    refine' L3.withM (x := "int") KX G ?z fun m_int => ?_; (case z => k_is)
    refine' L3.withM (x := "isinstance") KX G ?z fun m_isinstance => ?_; (case z => k_is)
    refine' L3.withM (x := "len") KX G ?z fun m_len => ?_; (case z => k_is)
    refine' L3.withM (x := "list") KX G ?z fun m_list => ?_; (case z => k_is)
    refine' L3.withM (x := "max") KX G ?z fun m_max => ?_; (case z => k_is)
    refine' L3.withM (x := "min") KX G ?z fun m_min => ?_; (case z => k_is)
    refine' L3.withM (x := "range") KX G ?z fun m_range => ?_; (case z => k_is)
    refine' L3.withM (x := "set") KX G ?z fun m_set => ?_; (case z => k_is)
    refine' L3.withM (x := "sorted") KX G ?z fun m_sorted => ?_; (case z => k_is)
    refine' L3.withM (x := "str") KX G ?z fun m_str => ?_; (case z => k_is)
    refine' L3.withM (x := "tuple") KX G ?z fun m_tuple => ?_; (case z => k_is)
    refine' L3.withM (x := "zip") KX G ?z fun m_zip => ?_; (case z => k_is)
    refine' L3.withS (x := "DEEDS") (ws := ["off", "on", "open", "shut"]) KX G ?a ?l ?z ?v fun k_DEEDS => ?_; (case a => k_is); (case l => k_is); (case z => decide); (case v => (repeat (first | exact .nil | refine .cons ⟨_, rfl⟩ ?_)))
    refine' L3.withS (x := "DEVICES") (ws := ["heater", "window"]) KX G ?a ?l ?z ?v fun k_DEVICES => ?_; (case a => k_is); (case l => k_is); (case z => decide); (case v => (repeat (first | exact .nil | refine .cons ⟨_, rfl⟩ ?_)))
    refine' L3.withI (x := "MOST_PAGES") (i := 3) KX G ?a fun k_MOST_PAGES => ?_; (case a => k_is)
    refine' L3.withS (x := "WEATHERS") (ws := ["cold", "mild"]) KX G ?a ?l ?z ?v fun k_WEATHERS => ?_; (case a => k_is); (case l => k_is); (case z => decide); (case v => (repeat (first | exact .nil | refine .cons ⟨_, rfl⟩ ?_)))
    refine' L3.withG (x := "InvalidWord") KX G ?a fun gW => ?_; (case a => k_is)
    refine' L3.withK (x := "InvalidBook") (b := false) KX G gW ?a ?kit fun K_InvalidBook => ?_; (case a => k_is); (case kit => first | kit_is | k_is)
    refine' L3.withK (x := "InvalidFeelings") (b := false) KX G gW ?a ?kit fun K_InvalidFeelings => ?_; (case a => k_is); (case kit => first | kit_is | k_is)
    refine' L3.withK (x := "InvalidHouse") (b := false) KX G gW ?a ?kit fun K_InvalidHouse => ?_; (case a => k_is); (case kit => first | kit_is | k_is)
    refine' L3.withK (x := "InvalidStart") (b := false) KX G gW ?a ?kit fun K_InvalidStart => ?_; (case a => k_is); (case kit => first | kit_is | k_is)
    refine' L3.withK (x := "InvalidStand") (b := false) KX G gW ?a ?kit fun K_InvalidStand => ?_; (case a => k_is); (case kit => first | kit_is | k_is)
    refine' L3.withK (x := "InvalidRun") (b := false) KX G gW ?a ?kit fun K_InvalidRun => ?_; (case a => k_is); (case kit => first | kit_is | k_is)
    refine' L3.withK (x := "InvalidPerson") (b := false) KX G gW ?a ?kit fun K_InvalidPerson => ?_; (case a => k_is); (case kit => first | kit_is | k_is)
    refine' L3.withK (x := "InvalidDeed") (b := false) KX G gW ?a ?kit fun K_InvalidDeed => ?_; (case a => k_is); (case kit => first | kit_is | k_is)
    refine' L3.withK (x := "InvalidWord") (b := true) KX G gW ?a ?kit fun K_InvalidWord => ?_; (case a => k_is); (case kit => first | kit_is | k_is)
    refine' L3.withK (x := "InvalidIndex") (b := false) KX G gW ?a ?kit fun K_InvalidIndex => ?_; (case a => k_is); (case kit => first | kit_is | k_is)
    refine' L3.withK (x := "Unlike") (b := false) KX G gW ?a ?kit fun K_Unlike => ?_; (case a => k_is); (case kit => first | kit_is | k_is)
    refine' L3.withK (x := "NothingToUndo") (b := false) KX G gW ?a ?kit fun K_NothingToUndo => ?_; (case a => k_is); (case kit => first | kit_is | k_is)
    refine' L3.withK (x := "TooMany") (b := false) KX G gW ?a ?kit fun K_TooMany => ?_; (case a => k_is); (case kit => first | kit_is | k_is)
    refine' L3.withK (x := "InvalidText") (b := false) KX G gW ?a ?kit fun K_InvalidText => ?_; (case a => k_is); (case kit => first | kit_is | k_is)
    refine' L3.withG (x := "TooMany") KX G ?a fun g_TooMany => ?_; (case a => k_is)
    refine' L3.withG (x := "InvalidText") KX G ?a fun g_InvalidText => ?_; (case a => k_is)
    refine' L3.withG (x := "FeudError") KX G ?a fun g_FeudError => ?_; (case a => k_is)
    refine' L3.law_at (by decide) (L3.AllS.mk d_law_known d_law_deck d_law_pick d_law_one d_law_warm d_law_tried d_law_book d_law_house d_law_level d_law_begin d_law_frac d_law_starts d_law_set d_law_looks d_law_feel d_law_look d_law_period d_law_gain d_law_warmed d_law_tick d_law_graph d_law_sort d_law_same d_is_within d_is_room_value d_is_word d_is_tries d_is_line d_is_book_value d_is_person_value d_is_house_value d_need_house d_level_of d_begun d_divisor d_lowest d_warmth_of d_starts_of d_changed d_first_change d_looks d_feeling_of d_looked d_change_of d_period_of d_passed d_step d_graph_of d_reached d_sets_device d_round_by d_ring_with d_start_to d_fight_ring d_fights d_law_setters d_law_after d_law_fought d_is_warmth d_is_start_value d_is_start d_law_led d_law_ring_right d_law_try m_ValueError m_all m_bool m_enumerate m_int m_isinstance m_len m_list m_max m_min m_range m_set m_sorted m_str m_tuple m_zip k_DEEDS k_DEVICES k_MOST_PAGES k_WEATHERS (L3.KinF.mk (L2.ExcC.mk ?e1 ?e2 ?e3 ?e4 ?e5 ?e6 ?e7 ?e8) K_InvalidBook K_InvalidFeelings K_InvalidHouse K_InvalidStart K_InvalidStand K_InvalidRun K_InvalidPerson K_InvalidDeed K_InvalidWord K_InvalidIndex K_Unlike K_NothingToUndo K_TooMany K_InvalidText ?kV m_isinstance m_zip m_ValueError (L3.kin_of KX G d_law_kin) ⟨_, _, _, g_TooMany, g_InvalidText, g_FeudError, PySem.W.exm_ref ?p1 ?p2 ?p3 ?p4, PySem.W.exm_ref ?q1 ?q2 ?q3 ?q4, PySem.W.exm_ref ?r1 ?r2 ?r3 ?r4⟩) ⟨⟨_, _, _, _, PySem.F.excBase_ValueError, ?xE⟩, gW, ?t1, ?t2, ?t3⟩) KX G hmg (PySem.W.km_tabs_of Y) ?a ?l ?c ?hd ?nP
    (case e1 => k_is); (case e2 => k_is); (case e3 => k_is); (case e4 => k_is); (case e5 => k_is); (case e6 => k_is); (case e7 => k_is); (case e8 => k_is)
    (case kV => first | kit_is | k_is)
    (case p1 => k_is); (case p2 => k_is); (case p3 => k_is); (case p4 => k_is); (case q1 => k_is); (case q2 => k_is); (case q3 => k_is); (case q4 => k_is); (case r1 => k_is); (case r2 => k_is); (case r3 => k_is); (case r4 => k_is)
    (case xE => k_exc); (case t1 => k_is); (case t2 => k_is); (case t3 => k_is)
    (case a => k_is); (case l => k_is); (case c => k_is); (case hd => kernel_rfl); (case nP => first | kernel_rfl | rfl | decide)
#print axioms PySem.Challenge.cw_roomfeud_k06_whole_fights_holds

