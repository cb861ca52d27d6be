import PyProof.Rows.All
import Wide.All
import OpenK.AllK
import Wide.FinOn
import HandS.ForMost
import HandS.ForExc
import HandS.Wide
import HandS.IsInst
import HandS.Lambda
import HandS.Zip
import HandS.TupAny
import HandS.TupMul
import HandS.CallLocal
import HandS.ExcCtx
import KE.KIsAll
import HandS.HotCalls
import HandS.ExcIs
import HandS.Comp
import HandS.TryMany
import PyProof.EnumIter
import PyProof.EnumMake
import HandS.Zip0
import HandS.HeadHook1
import HandS.HeadHook2
import HandS.HeadHook3
import HandS.HeadHook4
import HandS.EndTab
import HandS.HeadWalk
import HandS.Style
import HandS.Dict
import HandS.Iter
import KE.KStateDown
import Lean
import HandS.Head0
import HandS.Head1
import HandS.Head2
import HandS.HeadEnd
import PySem.Challenge.RW_chanceclimb_k05_whole_registers_put_toge
set_option Elab.async false
set_option linter.all false
set_option maxRecDepth 100000
set_option maxHeartbeats 4000000
/-! DL: plain data over the abstract heap. D: data; MO: what a mutable object holds; Wd: a world; Rep: a value stands for data; Le: a later world. -/
namespace DL
open PySem PySem.Spec PyProof.Rows L2

inductive D where
  | non | bl (b : Bool) | int (i : Int) | str (x : Str) | ty (n : String) | ref (a : Addr) | loc (k : Nat)
  | tup (xs : List D) | lst (xs : List D) | scr (ns : List Int)
inductive MO where
  | gone | lst (xs : List D) | ins (C : Addr) (fs : List (Str × D)) | dk (kvs : List (Key × D)) | dt (kvs : List (List Key × D))
  | lk (od : Obj) (vs : List (Key × V)) (kvs : List (Key × D)) | lt (od : Obj) (vs : List (List Key × V)) (kvs : List (List Key × D))

structure Wd where
  as : List Addr
  mu : List MO
  ex : List Addr
  H : Hp
def Hid (W : Wd) (a : Addr) : Prop := a ∈ W.ex ∨ ∃ (k : Nat) (o : MO), W.as[k]? = some a ∧ W.mu[k]? = some o ∧ o ≠ MO.gone

mutual
def Rep (W : Wd) : D → V → Prop
  | .non, v => v = .non
  | .bl b, v => v = .bl b
  | .int i, v => v = .int i
  | .str x, v => v = .str x
  | .ty n, v => v = .ty n
  | .ref a, v => v = .ref a
  | .loc k, v => ∃ a, W.as[k]? = some a ∧ v = .ref a
  | .tup xs, v => ∃ a vs, v = .ref a ∧ ¬ Hid W a ∧ W.H a = some (.tup vs) ∧ RepL W xs vs
  | .lst xs, v => ∃ a vs, v = .ref a ∧ ¬ Hid W a ∧ W.H a = some (.lst vs) ∧ RepL W xs vs
  | .scr ns, v => ∃ a, v = .ref a ∧ ¬ Hid W a ∧ Rd W.H a (.lst (ns.map V.int))
def RepL (W : Wd) : List D → List V → Prop
  | [], vs => vs = []
  | d :: ds, vs => ∃ v r, vs = v :: r ∧ Rep W d v ∧ RepL W ds r
end

structure LeW (W W' : Wd) : Prop where
  pre : ∃ more, W'.as = W.as ++ more
  keep : ∀ a o, W.H a = some o → ¬ Hid W a → (∀ ps, o ≠ HO.tbl ps) → W'.H a = some o
  dead : ∀ a o, W.H a = some o → ¬ Hid W a → (∀ ps, o ≠ HO.tbl ps) → ¬ Hid W' a
structure Le (W W' : Wd) : Prop where
  pre : ∃ more, W'.as = W.as ++ more
  ex : W'.ex = W.ex
  exk : ∀ a, a ∈ W.ex → (∀ ps, W.H a ≠ some (.tbl ps)) → W'.H a = W.H a
  keep : ∀ a o, W.H a = some o → ¬ Hid W a → (∀ ps, o ≠ HO.tbl ps) → W'.H a = some o
  dead : ∀ a o, W.H a = some o → ¬ Hid W a → (∀ ps, o ≠ HO.tbl ps) → ¬ Hid W' a
theorem Le.w {W W' : Wd} (l : Le W W') : LeW W W' := ⟨l.pre, l.keep, l.dead⟩
theorem Le.refl (W : Wd) : Le W W := ⟨⟨[], by simp⟩, rfl, fun _ _ _ => rfl, fun _ _ h _ _ => h, fun _ _ _ h _ => h⟩

theorem LeW.keepTup {W W' : Wd} (l : LeW W W') {a : Addr} {vs : List V} (h : W.H a = some (.tup vs)) (n : ¬ Hid W a) : W'.H a = some (.tup vs) := l.keep a _ h n fun _ z => by cases z
theorem LeW.keepRd {W W' : Wd} (l : LeW W W') {a : Addr} {vs : List V} (h : Rd W.H a (.lst vs)) (n : ¬ Hid W a) : Rd W'.H a (.lst vs) := by
  rcases h with h | ⟨o, h⟩
  · exact .inl (l.keep a _ h n fun _ z => by cases z)
  · exact .inr ⟨o, l.keep a _ h n fun _ z => by cases z⟩
theorem LeW.deadRd {W W' : Wd} (l : LeW W W') {a : Addr} {vs : List V} (h : Rd W.H a (.lst vs)) (n : ¬ Hid W a) : ¬ Hid W' a := by
  rcases h with h | ⟨o, h⟩
  · exact l.dead a _ h n fun _ z => by cases z
  · exact l.dead a _ h n fun _ z => by cases z
theorem rd_some {H : Hp} {a : Addr} {u : HO} (h : Rd H a u) : ∃ o, H a = some o := by
  rcases h with h | ⟨o, h⟩
  · exact ⟨_, h⟩
  · exact ⟨_, h⟩
theorem LeW.as_get {W W' : Wd} (l : LeW W W') {k : Nat} {a : Addr} (h : W.as[k]? = some a) : W'.as[k]? = some a := by
  obtain ⟨more, e⟩ := l.pre
  rw [e, List.getElem?_append_left (List.getElem?_eq_some_iff.mp h).1]
  exact h
mutual
theorem Rep.monoW {W W' : Wd} (l : LeW W W') : ∀ (d : D) (v : V), Rep W d v → Rep W' d v
  | .non, _, h => by unfold Rep at h ⊢; exact h
  | .bl _, _, h => by unfold Rep at h ⊢; exact h
  | .int _, _, h => by unfold Rep at h ⊢; exact h
  | .str _, _, h => by unfold Rep at h ⊢; exact h
  | .ty _, _, h => by unfold Rep at h ⊢; exact h
  | .ref _, _, h => by unfold Rep at h ⊢; exact h
  | .loc _, _, h => by
    unfold Rep at h ⊢
    obtain ⟨a, h1, h2⟩ := h
    exact ⟨a, l.as_get h1, h2⟩
  | .tup xs, _, h => by
    unfold Rep at h ⊢
    obtain ⟨a, vs, e, n, h1, h2⟩ := h
    exact ⟨a, vs, e, l.dead a _ h1 n (fun _ z => by cases z), l.keepTup h1 n, RepL.monoW l xs vs h2⟩
  | .lst xs, _, h => by
    unfold Rep at h ⊢
    obtain ⟨a, vs, e, n, h1, h2⟩ := h
    exact ⟨a, vs, e, l.dead a _ h1 n (fun _ z => by cases z), l.keep a _ h1 n (fun _ z => by cases z), RepL.monoW l xs vs h2⟩
  | .scr ns, _, h => by
    unfold Rep at h ⊢
    obtain ⟨a, e, n, h1⟩ := h
    exact ⟨a, e, l.deadRd h1 n, l.keepRd h1 n⟩
theorem RepL.monoW {W W' : Wd} (l : LeW W W') : ∀ (ds : List D) (vs : List V), RepL W ds vs → RepL W' ds vs
  | [], _, h => by unfold RepL at h ⊢; exact h
  | d :: ds, _, h => by
    unfold RepL at h ⊢
    obtain ⟨v, r, e, h1, h2⟩ := h
    exact ⟨v, r, e, Rep.monoW l d v h1, RepL.monoW l ds r h2⟩
end
theorem Rep.mono {W W' : Wd} (l : Le W W') (d : D) (v : V) (h : Rep W d v) : Rep W' d v := Rep.monoW l.w d v h
theorem RepL.mono {W W' : Wd} (l : Le W W') (ds : List D) (vs : List V) (h : RepL W ds vs) : RepL W' ds vs := RepL.monoW l.w ds vs h
theorem Le.as_get {W W' : Wd} (l : Le W W') {k : Nat} {a : Addr} (h : W.as[k]? = some a) : W'.as[k]? = some a := l.w.as_get h
theorem LeW.trans {W W1 W2 : Wd} (a : LeW W W1) (b : LeW W1 W2) : LeW W W2 := by
  refine ⟨?_, fun x o h n t => b.keep x o (a.keep x o h n t) (a.dead x o h n t) t, fun x o h n t => b.dead x o (a.keep x o h n t) (a.dead x o h n t) t⟩
  obtain ⟨m, e⟩ := a.pre
  obtain ⟨m', e'⟩ := b.pre
  exact ⟨m ++ m', by rw [e', e, List.append_assoc]⟩
theorem Le.trans {W W1 W2 : Wd} (a : Le W W1) (b : Le W1 W2) : Le W W2 := by
  refine ⟨?_, b.ex.trans a.ex, fun x hx ht => ?_, fun x o h n t => b.keep x o (a.keep x o h n t) (a.dead x o h n t) t, fun x o h n t => b.dead x o (a.keep x o h n t) (a.dead x o h n t) t⟩
  · obtain ⟨m, e⟩ := a.pre
    obtain ⟨m', e'⟩ := b.pre
    exact ⟨m ++ m', by rw [e', e, List.append_assoc]⟩
  · have e1 := a.exk x hx ht
    rw [b.exk x (by rw [a.ex]; exact hx) (by rw [e1]; exact ht), e1]

/-! ### data facts -/
theorem RepL.nil_of {W : Wd} {vs : List V} (h : RepL W [] vs) : vs = [] := by unfold RepL at h; exact h
theorem RepL.nil {W : Wd} : RepL W [] [] := by unfold RepL; rfl
theorem RepL.cons {W : Wd} {d : D} {ds : List D} {v : V} {vs : List V} (a : Rep W d v) (b : RepL W ds vs) : RepL W (d :: ds) (v :: vs) := by unfold RepL; exact ⟨v, vs, rfl, a, b⟩
theorem RepL.uncons {W : Wd} {d : D} {ds : List D} {vs : List V} (h : RepL W (d :: ds) vs) : ∃ v r, vs = v :: r ∧ Rep W d v ∧ RepL W ds r := by unfold RepL at h; exact h
theorem RepL.length {W : Wd} : ∀ {ds : List D} {vs : List V}, RepL W ds vs → vs.length = ds.length
  | [], _, h => by rw [h.nil_of]; rfl
  | d :: ds, _, h => by
    obtain ⟨v, r, rfl, _, h2⟩ := h.uncons
    rw [List.length_cons, List.length_cons, RepL.length h2]
theorem RepL.append {W : Wd} : ∀ {ds es : List D} {vs us : List V}, RepL W ds vs → RepL W es us → RepL W (ds ++ es) (vs ++ us)
  | [], _, _, _, h, g => by rw [h.nil_of]; exact g
  | d :: ds, _, _, _, h, g => by
    obtain ⟨v, r, rfl, h1, h2⟩ := h.uncons
    exact .cons h1 (RepL.append h2 g)
theorem RepL.get {W : Wd} : ∀ {ds : List D} {vs : List V} {i : Nat} {d : D}, RepL W ds vs → ds[i]? = some d → ∃ v, vs[i]? = some v ∧ Rep W d v
  | [], _, _, _, _, e => by simp at e
  | d :: ds, _, 0, _, h, e => by
    obtain ⟨v, r, rfl, h1, h2⟩ := h.uncons
    simp at e
    subst e
    exact ⟨v, rfl, h1⟩
  | d :: ds, _, i + 1, _, h, e => by
    obtain ⟨v, r, rfl, h1, h2⟩ := h.uncons
    obtain ⟨u, q1, q2⟩ := RepL.get h2 (i := i) (by simpa using e)
    exact ⟨u, by simpa using q1, q2⟩
theorem RepL.set {W : Wd} {d : D} {v : V} (hd : Rep W d v) : ∀ {ds : List D} {vs : List V} (i : Nat), RepL W ds vs → RepL W (ds.set i d) (vs.set i v)
  | [], _, _, h => by rw [h.nil_of]; exact .nil
  | _ :: ds, _, 0, h => by
    obtain ⟨_, r, rfl, h1, h2⟩ := h.uncons
    exact .cons hd h2
  | _ :: ds, _, i + 1, h => by
    obtain ⟨_, r, rfl, h1, h2⟩ := h.uncons
    exact .cons h1 (RepL.set hd i h2)
theorem RepL.drop {W : Wd} : ∀ {ds : List D} {vs : List V} (n : Nat), RepL W ds vs → RepL W (ds.drop n) (vs.drop n)
  | _, _, 0, h => h
  | [], _, n + 1, h => by rw [h.nil_of]; exact .nil
  | _ :: ds, _, n + 1, h => by
    obtain ⟨_, r, rfl, h1, h2⟩ := h.uncons
    exact RepL.drop n h2
theorem RepL.take {W : Wd} : ∀ {ds : List D} {vs : List V} (n : Nat), RepL W ds vs → RepL W (ds.take n) (vs.take n)
  | _, _, 0, h => .nil
  | [], _, n + 1, h => by rw [h.nil_of]; exact .nil
  | _ :: ds, _, n + 1, h => by
    obtain ⟨_, r, rfl, h1, h2⟩ := h.uncons
    exact .cons h1 (RepL.take n h2)
theorem RepL.ints {W : Wd} : ∀ ns : List Int, RepL W (ns.map D.int) (ns.map V.int)
  | [] => .nil
  | n :: ns => .cons (by unfold Rep; rfl) (RepL.ints ns)
theorem RepL.intsV {W : Wd} : ∀ {ns : List Int} {vs : List V}, RepL W (ns.map D.int) vs → vs = ns.map V.int
  | [], _, h => h.nil_of
  | n :: ns, _, h => by
    obtain ⟨v, r, rfl, h1, h2⟩ := h.uncons
    unfold Rep at h1
    rw [h1, RepL.intsV h2]
    rfl
theorem RepL.bls {W : Wd} : ∀ {ns : List Bool} {vs : List V}, RepL W (ns.map D.bl) vs → vs = ns.map V.bl
  | [], _, h => h.nil_of
  | n :: ns, _, h => by
    obtain ⟨v, r, rfl, h1, h2⟩ := h.uncons
    unfold Rep at h1
    rw [h1, RepL.bls h2]
    rfl
theorem RepL.rep {W : Wd} {ds : List D} {vs : List V} (h : RepL W ds vs) : ∀ k : Nat, RepL W (List.replicate k ds).flatten (List.replicate k vs).flatten
  | 0 => .nil
  | k + 1 => by
    rw [List.replicate_succ, List.replicate_succ, List.flatten_cons, List.flatten_cons]
    exact h.append (RepL.rep h k)
section
variable {W : Wd} {v : V}
theorem Rep.non_of (h : Rep W .non v) : v = .non := by unfold Rep at h; exact h
theorem Rep.bl_of {b : Bool} (h : Rep W (.bl b) v) : v = .bl b := by unfold Rep at h; exact h
theorem Rep.int_of {i : Int} (h : Rep W (.int i) v) : v = .int i := by unfold Rep at h; exact h
theorem Rep.str_of {i : Str} (h : Rep W (.str i) v) : v = .str i := by unfold Rep at h; exact h
theorem Rep.ty_of {i : String} (h : Rep W (.ty i) v) : v = .ty i := by unfold Rep at h; exact h
theorem Rep.ref_of {i : Addr} (h : Rep W (.ref i) v) : v = .ref i := by unfold Rep at h; exact h
theorem Rep.loc_of {k : Nat} (h : Rep W (.loc k) v) : ∃ a, W.as[k]? = some a ∧ v = .ref a := by unfold Rep at h; exact h
theorem Rep.tup_of {xs : List D} (h : Rep W (.tup xs) v) : ∃ a vs, v = .ref a ∧ ¬ Hid W a ∧ W.H a = some (.tup vs) ∧ RepL W xs vs := by unfold Rep at h; exact h
theorem Rep.lst_of {xs : List D} (h : Rep W (.lst xs) v) : ∃ a vs, v = .ref a ∧ ¬ Hid W a ∧ W.H a = some (.lst vs) ∧ RepL W xs vs := by unfold Rep at h; exact h
theorem Rep.scr_of {ns : List Int} (h : Rep W (.scr ns) v) : ∃ a, v = .ref a ∧ ¬ Hid W a ∧ Rd W.H a (.lst (ns.map V.int)) := by unfold Rep at h; exact h
theorem Rep.scr {ns : List Int} {a : Addr} (n : ¬ Hid W a) (h : Rd W.H a (.lst (ns.map V.int))) : Rep W (.scr ns) (.ref a) := by unfold Rep; exact ⟨a, rfl, n, h⟩
theorem Rep.non : Rep W .non .non := by unfold Rep; rfl
theorem Rep.bl {b : Bool} : Rep W (.bl b) (.bl b) := by unfold Rep; rfl
theorem Rep.int {b : Int} : Rep W (.int b) (.int b) := by unfold Rep; rfl
theorem Rep.str {b : Str} : Rep W (.str b) (.str b) := by unfold Rep; rfl
theorem Rep.ty {b : String} : Rep W (.ty b) (.ty b) := by unfold Rep; rfl
theorem Rep.ref {b : Addr} : Rep W (.ref b) (.ref b) := by unfold Rep; rfl
theorem Rep.loc {k : Nat} {a : Addr} (h : W.as[k]? = some a) : Rep W (.loc k) (.ref a) := by unfold Rep; exact ⟨a, h, rfl⟩
theorem Rep.tup {xs : List D} {a : Addr} {vs : List V} (n : ¬ Hid W a) (h : W.H a = some (.tup vs)) (r : RepL W xs vs) : Rep W (.tup xs) (.ref a) := by unfold Rep; exact ⟨a, vs, rfl, n, h, r⟩
theorem Rep.lst {xs : List D} {a : Addr} {vs : List V} (n : ¬ Hid W a) (h : W.H a = some (.lst vs)) (r : RepL W xs vs) : Rep W (.lst xs) (.ref a) := by unfold Rep; exact ⟨a, vs, rfl, n, h, r⟩
end

/-! ### a world that is kept -/
def RepF {κ : Type} (W : Wd) : List (κ × D) → List (κ × V) → Prop
  | [], fs => fs = []
  | p :: r, fs => ∃ v s, fs = (p.1, v) :: s ∧ Rep W p.2 v ∧ RepF W r s
theorem RepF.monoW {κ : Type} {W W' : Wd} (l : LeW W W') : ∀ {fs : List (κ × D)} {vs : List (κ × V)}, RepF W fs vs → RepF W' fs vs
  | [], _, h => h
  | p :: r, _, ⟨v, s, e, h1, h2⟩ => ⟨v, s, e, Rep.monoW l _ _ h1, RepF.monoW l h2⟩
theorem RepF.mono {κ : Type} {W W' : Wd} (l : Le W W') {fs : List (κ × D)} {vs : List (κ × V)} (h : RepF W fs vs) : RepF W' fs vs := RepF.monoW l.w h
def MOk (W : Wd) (a : Addr) : MO → Prop
  | .gone => True
  | .lst xs => ∃ vs, W.H a = some (.lst vs) ∧ RepL W xs vs
  | .ins C fs => ∃ dx vs, W.H a = some (.ins C dx vs) ∧ RepF W fs vs
  | .dk kvs => ∃ vs, W.H a = some (.dK vs) ∧ RepF W kvs vs
  | .dt kvs => ∃ vs, W.H a = some (.dT vs) ∧ RepF W kvs vs
  | .lk od vs kvs => W.H a = some (.frz od (.dK vs)) ∧ RepF W kvs vs
  | .lt od vs kvs => W.H a = some (.frz od (.dT vs)) ∧ RepF W kvs vs
/-- no table of code objects -/
def NT (o : HO) : Prop := ∀ ps, o ≠ HO.tbl ps
structure WOk (T : List (Addr × Str)) (W : Wd) : Prop where
  len : W.as.length = W.mu.length
  nd : W.as.Nodup
  tr : ∀ a, a ∈ W.as ++ W.ex → ∃ o, W.H a = some o ∧ NT o
  dj : ∀ a, a ∈ W.ex → a ∉ W.as
  ob : ∀ (k : Nat) (a : Addr) (o : MO), W.as[k]? = some a → W.mu[k]? = some o → MOk W a o
  tabs : LamX.Tabs T W.H
section
variable {T : List (Addr × Str)} {W : Wd} {p a : Addr} {o : HO} {m : MO} {k : Nat}
theorem MOk.monoW {W W' : Wd} (l : LeW W W') (h : MOk W a m) (st : ∀ u, W.H a = some u → W'.H a = some u) : MOk W' a m := by
  cases m with
  | gone => trivial
  | lst xs =>
    obtain ⟨vs, h1, h2⟩ := h
    exact ⟨vs, st _ h1, RepL.monoW l _ _ h2⟩
  | ins C fs =>
    obtain ⟨dx, vs, h1, h2⟩ := h
    exact ⟨dx, vs, st _ h1, RepF.monoW l h2⟩
  | dk kvs =>
    obtain ⟨vs, h1, h2⟩ := h
    exact ⟨vs, st _ h1, RepF.monoW l h2⟩
  | dt kvs =>
    obtain ⟨vs, h1, h2⟩ := h
    exact ⟨vs, st _ h1, RepF.monoW l h2⟩
  | lk od vs kvs => exact ⟨st _ h.1, RepF.monoW l h.2⟩
  | lt od vs kvs => exact ⟨st _ h.1, RepF.monoW l h.2⟩
theorem MOk.mono {W W' : Wd} (l : Le W W') (h : MOk W a m) (st : ∀ u, W.H a = some u → W'.H a = some u) : MOk W' a m := h.monoW l.w st
theorem WOk.notHid (ok : WOk T W) (h : W.H p = none) : ¬ Hid W p := fun q => by
  have : p ∈ W.as ++ W.ex := by
    rcases q with q | ⟨k, o, q, _⟩
    · exact List.mem_append_right _ q
    · exact List.mem_append_left _ (List.mem_of_getElem? q)
  obtain ⟨o, e, _⟩ := ok.tr p this
  rw [h] at e
  cases e
/-- a new object that is not to change -/
theorem Le.new (ok : WOk T W) (h : W.H p = none) : Le W { W with H := upd W.H p o } := by
  refine ⟨⟨[], by simp⟩, rfl, fun a ha _ => ?_, fun a u ha n t => ?_, fun a u ha n t q => n q⟩
  · obtain ⟨u, e, en⟩ := ok.tr a (List.mem_append_right _ ha)
    show upd W.H p o a = W.H a
    rw [upd_ne (ne_of_none e h)]
  · show upd W.H p o a = _
    rw [upd_ne (ne_of_none ha h)]
    exact ha
theorem WOk.new (ok : WOk T W) (h : W.H p = none) : WOk T { W with H := upd W.H p o } := by
  have st : ∀ a u, W.H a = some u → upd W.H p o a = some u := fun a u e => by rw [upd_ne (ne_of_none e h)]; exact e
  refine ⟨ok.len, ok.nd, fun a ha => ?_, ok.dj, fun k a m h1 h2 => (ok.ob k a m h1 h2).mono (Le.new ok h) (st a), ok.tabs.ext st⟩
  obtain ⟨u, e, en⟩ := ok.tr a ha
  exact ⟨u, st a u e, en⟩
theorem Rep.newTup {xs : List D} {vs : List V} (ok : WOk T W) (h : W.H p = none) (r : RepL W xs vs) : Rep { W with H := upd W.H p (.tup vs) } (.tup xs) (.ref p) :=
  Rep.tup (fun q => ok.notHid h q) upd_same (RepL.mono (Le.new ok h) _ _ r)
theorem Rep.newLst {xs : List D} {vs : List V} (ok : WOk T W) (h : W.H p = none) (r : RepL W xs vs) : Rep { W with H := upd W.H p (.lst vs) } (.lst xs) (.ref p) :=
  Rep.lst (fun q => ok.notHid h q) upd_same (RepL.mono (Le.new ok h) _ _ r)
/-- a new object that may change -/
def Wd.add (W : Wd) (p : Addr) (o : HO) (m : MO) : Wd := { as := W.as ++ [p], mu := W.mu ++ [m], ex := W.ex, H := upd W.H p o }
theorem Le.add (ok : WOk T W) (h : W.H p = none) : Le W (W.add p o m) := by
  refine ⟨⟨[p], rfl⟩, rfl, fun a ha _ => ?_, fun a u ha n t => ?_, fun a u ha n t q => ?_⟩
  · obtain ⟨u, e, en⟩ := ok.tr a (List.mem_append_right _ ha)
    show upd W.H p o a = W.H a
    rw [upd_ne (ne_of_none e h)]
  · show upd W.H p o a = _
    rw [upd_ne (ne_of_none ha h)]
    exact ha
  · rcases q with q | ⟨k, z, q1, q2, q3⟩
    · exact n (.inl q)
    · have q1 : (W.as ++ [p])[k]? = some a := q1
      have q2 : (W.mu ++ [m])[k]? = some z := q2
      by_cases hk : k < W.as.length
      · rw [List.getElem?_append_left hk] at q1
        rw [List.getElem?_append_left (ok.len ▸ hk)] at q2
        exact n (.inr ⟨k, z, q1, q2, q3⟩)
      · rw [List.getElem?_append_right (by omega)] at q1
        have e : a = p := by
          have := List.mem_of_getElem? q1
          simpa using this
        rw [e, h] at ha
        cases ha
theorem WOk.add (ok : WOk T W) (h : W.H p = none) (hm : MOk (W.add p o m) p m) (hn : NT o := by intro ps z; cases z) : WOk T (W.add p o m) := by
  have st : ∀ a u, W.H a = some u → upd W.H p o a = some u := fun a u e => by rw [upd_ne (ne_of_none e h)]; exact e
  have np : p ∉ W.as ++ W.ex := fun q => by
    obtain ⟨u, e, en⟩ := ok.tr p q
    rw [h] at e
    cases e
  refine ⟨by show (W.as ++ [p]).length = (W.mu ++ [m]).length; simp [ok.len], ?_, fun a ha => ?_, fun a ha q => ?_, fun k a z h1 h2 => ?_, ok.tabs.ext st⟩
  · show (W.as ++ [p]).Nodup
    rw [List.nodup_append]
    refine ⟨ok.nd, by simp, fun a ha b hb e => ?_⟩
    have hb : b = p := by simpa using hb
    subst hb
    subst e
    exact np (List.mem_append_left _ ha)
  · have ha : a ∈ (W.as ++ [p]) ++ W.ex := ha
    by_cases e : a = p
    · exact ⟨o, by rw [e]; exact upd_same, hn⟩
    · have ha' : a ∈ W.as ++ W.ex := by
        simp only [List.mem_append, List.mem_singleton] at ha ⊢
        rcases ha with (x | x) | x
        · exact .inl x
        · exact absurd x e
        · exact .inr x
      obtain ⟨u, q, en⟩ := ok.tr a ha'
      exact ⟨u, st a u q, en⟩
  · have q : a ∈ W.as ++ [p] := q
    have ha : a ∈ W.ex := ha
    simp only [List.mem_append, List.mem_singleton] at q
    rcases q with q | q
    · exact ok.dj a ha q
    · subst q
      exact np (List.mem_append_right _ ha)
  · have h1 : (W.as ++ [p])[k]? = some a := h1
    have h2 : (W.mu ++ [m])[k]? = some z := h2
    by_cases hk : k < W.as.length
    · rw [List.getElem?_append_left hk] at h1
      rw [List.getElem?_append_left (ok.len ▸ hk)] at h2
      exact (ok.ob k a z h1 h2).mono (Le.add ok h) (st a)
    · rw [List.getElem?_append_right (by omega)] at h1
      rw [List.getElem?_append_right (by have := ok.len; omega)] at h2
      have e : a = p := by simpa using List.mem_of_getElem? h1
      have e2 : z = m := by simpa using List.mem_of_getElem? h2
      subst e e2
      exact hm
theorem Rep.add (ok : WOk T W) : Rep (W.add p o m) (.loc W.mu.length) (.ref p) := by
  refine Rep.loc ?_
  show (W.as ++ [p])[W.mu.length]? = some p
  rw [← ok.len, List.getElem?_append_right (Nat.le_refl _), Nat.sub_self]
  rfl
/-- a mutable object is written -/
def Wd.put (W : Wd) (k : Nat) (a : Addr) (o : HO) (m : MO) : Wd := { as := W.as, mu := W.mu.set k m, ex := W.ex, H := upd W.H a o }
theorem hid_put {b : Addr} {m0 : MO} (ok : WOk T W) (ha : W.as[k]? = some a) (hm0 : W.mu[k]? = some m0) (n0 : m0 ≠ .gone) (q : Hid (W.put k a o m) b) : Hid W b := by
  rcases q with q | ⟨j, z, q1, q2, q3⟩
  · exact .inl q
  · replace q1 : W.as[j]? = some b := q1
    replace q2 : (W.mu.set k m)[j]? = some z := q2
    by_cases e : j = k
    · subst e
      rw [ha] at q1
      cases q1
      exact .inr ⟨j, m0, ha, hm0, n0⟩
    · rw [List.getElem?_set_ne (Ne.symm e)] at q2
      exact .inr ⟨j, z, q1, q2, q3⟩
theorem Le.put {m0 : MO} (ok : WOk T W) (ha : W.as[k]? = some a) (hm0 : W.mu[k]? = some m0) (n0 : m0 ≠ .gone) : Le W (W.put k a o m) := by
  have hid : Hid W a := .inr ⟨k, m0, ha, hm0, n0⟩
  refine ⟨⟨[], by show W.as = _; simp⟩, rfl, fun b hb _ => ?_, fun b u hb n t => ?_, fun b u hb n t q => n (hid_put ok ha hm0 n0 q)⟩
  · show upd W.H a o b = _
    rw [upd_ne (fun e => ok.dj b hb (by rw [e]; exact List.mem_of_getElem? ha))]
  · show upd W.H a o b = _
    rw [upd_ne (fun e => n (by rw [e]; exact hid))]
    exact hb
theorem nodup_idx {α : Type} {l : List α} (h : l.Nodup) {i j : Nat} {x : α} (hi : l[i]? = some x) (hj : l[j]? = some x) : i = j := by
  obtain ⟨h1, e1⟩ := List.getElem?_eq_some_iff.mp hi
  obtain ⟨h2, e2⟩ := List.getElem?_eq_some_iff.mp hj
  exact (List.getElem_inj h).mp (e1.trans e2.symm)
theorem WOk.put {m0 : MO} (ok : WOk T W) (ha : W.as[k]? = some a) (hm0 : W.mu[k]? = some m0) (n0 : m0 ≠ .gone) (nt : ∀ ps, W.H a ≠ some (.tbl ps)) (nc : ∀ φ, W.H a ≠ some (.ext φ)) (hm : MOk (W.put k a o m) a m) (hn : NT o := by intro ps z; cases z) : WOk T (W.put k a o m) := by
  refine ⟨by show W.as.length = (W.mu.set k m).length; rw [List.length_set]; exact ok.len, ok.nd, fun b hb => ?_, ok.dj, fun j b z h1 h2 => ?_, fun q hq => ?_⟩
  · by_cases e : b = a
    · exact ⟨o, by rw [e]; exact upd_same, hn⟩
    · obtain ⟨u, z, en⟩ := ok.tr b hb
      exact ⟨u, by show upd W.H a o b = _; rw [upd_ne e]; exact z, en⟩
  · replace h1 : W.as[j]? = some b := h1
    replace h2 : (W.mu.set k m)[j]? = some z := h2
    by_cases e : j = k
    · subst e
      rw [ha] at h1
      cases h1
      rw [List.getElem?_set_self (List.getElem?_eq_some_iff.mp hm0).1] at h2
      cases h2
      exact hm
    · rw [List.getElem?_set_ne (Ne.symm e)] at h2
      have ne : b ≠ a := fun z => e (nodup_idx ok.nd h1 (z ▸ ha))
      exact (ok.ob j b z h1 h2).mono (Le.put ok ha hm0 n0) fun u hu => by show upd W.H a o b = _; rw [upd_ne ne]; exact hu
  · obtain ⟨ps, h1, h2, h3⟩ := ok.tabs q hq
    refine ⟨ps, by show upd W.H a o q.1 = _; rw [upd_ne (fun e => nt ps (by rw [← e]; exact h1))]; exact h1, h2, fun pos cv hc => ?_⟩
    obtain ⟨c, e1, e2⟩ := h3 pos cv hc
    refine ⟨c, e1, ?_⟩
    show upd W.H a o c = _
    rw [upd_ne (fun e => nc _ (by rw [← e]; exact e2))]
    exact e2
/-- a mutable list is not to change from now on -/
def Wd.frz (W : Wd) (k : Nat) : Wd := { W with mu := W.mu.set k .gone }
theorem hid_frz {b : Addr} (q : Hid (W.frz k) b) : Hid W b := by
  rcases q with q | ⟨j, z, q1, q2, q3⟩
  · exact .inl q
  · have q2 : (W.mu.set k .gone)[j]? = some z := q2
    by_cases e : j = k
    · subst e
      by_cases hl : j < W.mu.length
      · rw [List.getElem?_set_self hl] at q2
        cases q2
        exact absurd rfl q3
      · rw [List.getElem?_eq_none (by simpa using hl)] at q2
        cases q2
    · rw [List.getElem?_set_ne (Ne.symm e)] at q2
      exact .inr ⟨j, z, q1, q2, q3⟩
theorem Le.frz : Le W (W.frz k) := ⟨⟨[], by show W.as = _; simp⟩, rfl, fun _ _ _ => rfl, fun _ _ h _ _ => h, fun _ _ _ n _ q => n (hid_frz q)⟩
theorem WOk.frz (ok : WOk T W) : WOk T (W.frz k) := by
  refine ⟨by show W.as.length = (W.mu.set k .gone).length; rw [List.length_set]; exact ok.len, ok.nd, ok.tr, ok.dj, fun j b z h1 h2 => ?_, ok.tabs⟩
  have h1 : W.as[j]? = some b := h1
  have h2 : (W.mu.set k .gone)[j]? = some z := h2
  by_cases e : j = k
  · subst e
    by_cases hl : j < W.mu.length
    · rw [List.getElem?_set_self hl] at h2
      cases h2
      trivial
    · rw [List.getElem?_eq_none (by simpa using hl)] at h2
      cases h2
  · rw [List.getElem?_set_ne (Ne.symm e)] at h2
    exact (ok.ob j b z h1 h2).mono Le.frz fun _ h => h
theorem Rep.frz {xs : List D} {v : V} (ok : WOk T W) (h : Rep W (.loc k) v) (hk : W.mu[k]? = some (.lst xs)) : Rep (W.frz k) (.lst xs) v := by
  obtain ⟨a, ha, rfl⟩ := h.loc_of
  obtain ⟨vs, h1, h2⟩ := ok.ob k a _ ha hk
  refine Rep.lst (fun q => ?_) h1 (RepL.mono Le.frz _ _ h2)
  rcases q with q | ⟨j, z, q1, q2, q3⟩
  · exact ok.dj a q (List.mem_of_getElem? ha)
  · have q2 : (W.mu.set k .gone)[j]? = some z := q2
    have e : j = k := nodup_idx ok.nd (show W.as[j]? = some a from q1) ha
    subst e
    rw [List.getElem?_set_self (List.getElem?_eq_some_iff.mp hk).1] at q2
    cases q2
    exact q3 rfl
end
/-! ### what was made last is forgotten -/
mutual
def nl (n : Nat) : D → Bool
  | .loc k => decide (k < n)
  | .tup xs => nlL n xs
  | .lst xs => nlL n xs
  | _ => true
def nlL (n : Nat) : List D → Bool
  | [] => true
  | d :: r => nl n d && nlL n r
end
def nlF {κ : Type} (n : Nat) : List (κ × D) → Bool
  | [] => true
  | p :: r => nl n p.2 && nlF n r
def nlM (n : Nat) : MO → Bool
  | .gone => true
  | .lst xs => nlL n xs
  | .ins _ fs => nlF n fs
  | .dk fs => nlF n fs
  | .dt fs => nlF n fs
  | .lk _ _ fs => nlF n fs
  | .lt _ _ fs => nlF n fs
def Wd.cut (W : Wd) (n : Nat) : Wd := { W with as := W.as.take n, mu := W.mu.take n }
theorem hid_cut {W : Wd} {n : Nat} {b : Addr} (q : Hid (W.cut n) b) : Hid W b := by
  rcases q with q | ⟨j, z, q1, q2, q3⟩
  · exact .inl q
  · have q1 : (W.as.take n)[j]? = some b := q1
    have q2 : (W.mu.take n)[j]? = some z := q2
    rw [List.getElem?_take] at q1 q2
    split at q1
    · rename_i hj
      rw [if_pos hj] at q2
      exact .inr ⟨j, z, q1, q2, q3⟩
    · cases q1
mutual
theorem Rep.cut {W : Wd} {n : Nat} : ∀ (d : D) (v : V), Rep W d v → nl n d = true → Rep (W.cut n) d v
  | .non, _, h, _ => by rw [h.non_of]; exact .non
  | .bl _, _, h, _ => by rw [h.bl_of]; exact .bl
  | .int _, _, h, _ => by rw [h.int_of]; exact .int
  | .str _, _, h, _ => by rw [h.str_of]; exact .str
  | .ty _, _, h, _ => by rw [h.ty_of]; exact .ty
  | .ref _, _, h, _ => by rw [h.ref_of]; exact .ref
  | .loc k, _, h, q => by
    obtain ⟨a, h1, rfl⟩ := h.loc_of
    refine Rep.loc ?_
    unfold nl at q
    show (W.as.take n)[k]? = some a
    rw [List.getElem?_take, if_pos (of_decide_eq_true q)]
    exact h1
  | .tup xs, _, h, q => by
    obtain ⟨a, vs, rfl, n1, h1, h2⟩ := h.tup_of
    unfold nl at q
    exact Rep.tup (fun z => n1 (hid_cut z)) h1 (RepL.cut xs vs h2 q)
  | .lst xs, _, h, q => by
    obtain ⟨a, vs, rfl, n1, h1, h2⟩ := h.lst_of
    unfold nl at q
    exact Rep.lst (fun z => n1 (hid_cut z)) h1 (RepL.cut xs vs h2 q)
  | .scr ns, _, h, q => by
    obtain ⟨a, rfl, n1, h1⟩ := h.scr_of
    exact Rep.scr (fun z => n1 (hid_cut z)) h1
theorem RepL.cut {W : Wd} {n : Nat} : ∀ (ds : List D) (vs : List V), RepL W ds vs → nlL n ds = true → RepL (W.cut n) ds vs
  | [], _, h, _ => by rw [h.nil_of]; exact .nil
  | d :: ds, _, h, q => by
    obtain ⟨v, r, rfl, h1, h2⟩ := h.uncons
    unfold nlL at q
    rw [Bool.and_eq_true] at q
    exact .cons (Rep.cut d v h1 q.1) (RepL.cut ds r h2 q.2)
end
theorem RepF.cut {κ : Type} {W : Wd} {n : Nat} : ∀ {fs : List (κ × D)} {vs : List (κ × V)}, RepF W fs vs → nlF n fs = true → RepF (W.cut n) fs vs
  | [], _, h, _ => h
  | p :: r, _, ⟨v, s, e, h1, h2⟩, q => by
    unfold nlF at q
    rw [Bool.and_eq_true] at q
    exact ⟨v, s, e, Rep.cut _ _ h1 q.1, RepF.cut h2 q.2⟩
theorem Le.cut {W0 W : Wd} {n : Nat} (l : Le W0 W) (h : W0.as.length ≤ n) : Le W0 (W.cut n) := by
  refine ⟨?_, l.ex, l.exk, l.keep, fun a o h n t q => l.dead a o h n t (hid_cut q)⟩
  obtain ⟨m, e⟩ := l.pre
  refine ⟨m.take (n - W0.as.length), ?_⟩
  show W.as.take n = _
  rw [e, List.take_append, List.take_of_length_le h]
theorem WOk.cut {T : List (Addr × Str)} {W : Wd} {n : Nat} (ok : WOk T W) (h : ∀ o, o ∈ W.mu.take n → nlM n o = true) : WOk T (W.cut n) := by
  refine ⟨by show (W.as.take n).length = (W.mu.take n).length; rw [List.length_take, List.length_take, ok.len], ok.nd.sublist (List.take_sublist _ _), fun a ha => ok.tr a ?_, fun a ha q => ok.dj a ha (List.mem_of_mem_take q), fun k a o h1 h2 => ?_, ok.tabs⟩
  · have ha : a ∈ W.as.take n ++ W.ex := ha
    rw [List.mem_append] at ha ⊢
    exact ha.imp List.mem_of_mem_take id
  · have h1 : (W.as.take n)[k]? = some a := h1
    have h2 : (W.mu.take n)[k]? = some o := h2
    have hn := h o (List.mem_of_getElem? h2)
    rw [List.getElem?_take] at h1 h2
    split at h1
    · rename_i hj
      rw [if_pos hj] at h2
      have z := ok.ob k a o h1 h2
      cases o with
      | gone => trivial
      | lst xs =>
        obtain ⟨vs, e1, e2⟩ := z
        exact ⟨vs, e1, RepL.cut _ _ e2 hn⟩
      | ins C fs =>
        obtain ⟨dx, vs, e1, e2⟩ := z
        exact ⟨dx, vs, e1, RepF.cut e2 hn⟩
      | dk fs =>
        obtain ⟨vs, e1, e2⟩ := z
        exact ⟨vs, e1, RepF.cut e2 hn⟩
      | dt fs =>
        obtain ⟨vs, e1, e2⟩ := z
        exact ⟨vs, e1, RepF.cut e2 hn⟩
      | lk od vs fs => exact ⟨z.1, RepF.cut z.2 hn⟩
      | lt od vs fs => exact ⟨z.1, RepF.cut z.2 hn⟩
    · cases h1
end DL
set_option maxHeartbeats 4000000
/-! DL2: readings over data: expressions, tests, arguments, statements, loops, comprehensions, calls, defs. -/
namespace DL
open PySem PySem.Spec PyProof.Rows L2

abbrev EnvD := List (Option D)
abbrev MS := List MO
def gt : EnvD → Nat → Option D
  | [], _ => none
  | x :: _, 0 => x
  | _ :: r, i + 1 => gt r i
theorem gt_eq : ∀ (ρ : EnvD) (i : Nat), gt ρ i = (ρ[i]?).join
  | [], _ => rfl
  | x :: _, 0 => rfl
  | _ :: r, i + 1 => by
    rw [gt, gt_eq r i]
    simp
def RepE (W : Wd) (σ : L2.St) (ρ : EnvD) : Prop := ρ.length = σ.length ∧ ∀ i d, gt ρ i = some d → ∃ v, σ[i]? = some (some v) ∧ Rep W d v
theorem RepE.monoW {W W' : Wd} {σ : L2.St} {ρ : EnvD} (h : RepE W σ ρ) (l : LeW W W') : RepE W' σ ρ := ⟨h.1, fun i d e => let ⟨v, a, b⟩ := h.2 i d e; ⟨v, a, Rep.monoW l _ _ b⟩⟩
theorem RepE.mono {W W' : Wd} {σ : L2.St} {ρ : EnvD} (h : RepE W σ ρ) (l : Le W W') : RepE W' σ ρ := h.monoW l.w
theorem RepE.set {W : Wd} {σ : L2.St} {ρ : EnvD} {d : D} {v : V} (h : RepE W σ ρ) (r : Rep W d v) (i : Nat) : RepE W (σ.set i (some v)) (ρ.set i (some d)) := by
  refine ⟨by rw [List.length_set, List.length_set]; exact h.1, fun j d' e => ?_⟩
  rw [gt_eq] at e
  by_cases hj : i = j
  · subst hj
    by_cases hl : i < ρ.length
    · rw [List.getElem?_set_self hl] at e
      cases e
      exact ⟨v, List.getElem?_set_self (by rw [← h.1]; exact hl), r⟩
    · rw [List.getElem?_eq_none (by simpa using hl)] at e
      cases e
  · rw [List.getElem?_set_ne hj] at e
    obtain ⟨u, e1, e2⟩ := h.2 j d' (by rw [gt_eq]; exact e)
    exact ⟨u, by rw [List.getElem?_set_ne hj]; exact e1, e2⟩
theorem RepE.unset {W : Wd} {σ : L2.St} {ρ : EnvD} (h : RepE W σ ρ) (i : Nat) : RepE W (σ.set i none) (ρ.set i none) := by
  refine ⟨by rw [List.length_set, List.length_set]; exact h.1, fun j d' e => ?_⟩
  rw [gt_eq] at e
  by_cases hj : i = j
  · subst hj
    by_cases hl : i < ρ.length
    · rw [List.getElem?_set_self hl] at e
      cases e
    · rw [List.getElem?_eq_none (by simpa using hl)] at e
      cases e
  · rw [List.getElem?_set_ne hj] at e
    obtain ⟨u, e1, e2⟩ := h.2 j d' (by rw [gt_eq]; exact e)
    exact ⟨u, by rw [List.getElem?_set_ne hj]; exact e1, e2⟩
theorem RepE.forget {W : Wd} {σ : L2.St} {ρ : EnvD} (h : RepE W σ ρ) (i : Nat) : RepE W σ (ρ.set i none) := by
  refine ⟨by rw [List.length_set]; exact h.1, fun j d' e => ?_⟩
  rw [gt_eq] at e
  by_cases hj : i = j
  · subst hj
    by_cases hl : i < ρ.length
    · rw [List.getElem?_set_self hl] at e
      cases e
    · rw [List.getElem?_eq_none (by simpa using hl)] at e
      cases e
  · rw [List.getElem?_set_ne hj] at e
    exact h.2 j d' (by rw [gt_eq]; exact e)
def wipeD (ρ : EnvD) : List Nat → EnvD
  | [] => ρ
  | v :: vs => (wipeD ρ vs).set v none
theorem RepE.wipe {W : Wd} {σ : L2.St} {ρ : EnvD} (h : RepE W σ ρ) : ∀ vs : List Nat, RepE W (wipe σ vs) (wipeD ρ vs)
  | [] => h
  | v :: vs => by
    unfold L2.wipe wipeD
    exact (RepE.wipe h vs).unset v

/-! ### wishes -/
abbrev XD := Value → List (Str × D) → MS → Prop
abbrev X0 : XD := fun _ _ _ => False
def XRep (W : Wd) : Option Addr → List (Str × D) → Prop
  | none, fs => fs = []
  | some a, fs => fs ≠ [] ∧ ∃ vs, W.H a = some (.xd vs) ∧ RepF W fs vs
def TrX (T : List (Addr × Str)) (W : Wd) (Ξ : XD) (E : XK) : Prop := ∀ (W' : Wd) cls d fs, Le W W' → WOk T W' → XRep W' d fs → Ξ cls fs W'.mu → E cls d W'.H
theorem TrX.mono {T : List (Addr × Str)} {W W' : Wd} {Ξ : XD} {E : XK} (h : TrX T W Ξ E) (l : Le W W') : TrX T W' Ξ E := fun W1 c d f l1 => h W1 c d f (l.trans l1)
theorem TrX.none {T : List (Addr × Str)} {W : Wd} {E : XK} : TrX T W X0 E := fun _ _ _ _ _ _ _ z => z.elim
def TrQ (T : List (Addr × Str)) (W : Wd) (Φ : D → MS → Prop) (Q : VK) : Prop := ∀ (W' : Wd) d v, Le W W' → WOk T W' → Rep W' d v → Φ d W'.mu → Q v W'.H
theorem TrQ.mono {T : List (Addr × Str)} {W W' : Wd} {Φ : D → MS → Prop} {Q : VK} (h : TrQ T W Φ Q) (l : Le W W') : TrQ T W' Φ Q := fun W1 d v l1 => h W1 d v (l.trans l1)
abbrev DW := EnvD → MS → (D → MS → Prop) → XD → Prop
abbrev DWT := EnvD → MS → (Bool → MS → Prop) → XD → Prop
abbrev DWA := EnvD → MS → (List D → MS → Prop) → XD → Prop
abbrev DWO := EnvD → MS → (Option Int → MS → Prop) → XD → Prop
structure DEnds where
  nx : EnvD → MS → Prop
  rt : D → MS → Prop
  bk : EnvD → MS → Prop
  ct : EnvD → MS → Prop
abbrev DWS := EnvD → MS → DEnds → XD → Prop
section
variable (T : List (Addr × Str)) (E : XK)
def tOf (w : DW) : TE := fun σ H Q => ∃ (W : Wd) (ρ : EnvD) (Φ : D → MS → Prop) (Ξ : XD), W.H = H ∧ WOk T W ∧ RepE W σ ρ ∧ w ρ W.mu Φ Ξ ∧ TrQ T W Φ Q ∧ TrX T W Ξ E
def tOfT (w : DWT) : TT := fun σ H Q => ∃ (W : Wd) (ρ : EnvD) (Φ : Bool → MS → Prop) (Ξ : XD), W.H = H ∧ WOk T W ∧ RepE W σ ρ ∧ w ρ W.mu Φ Ξ ∧
  (∀ (W' : Wd) b, Le W W' → WOk T W' → Φ b W'.mu → Q b W'.H) ∧ TrX T W Ξ E
def tOfA (n : Nat) (w : DWA) : TA := fun σ H Q => ∃ (W : Wd) (ρ : EnvD) (Φ : List D → MS → Prop) (Ξ : XD), W.H = H ∧ WOk T W ∧ RepE W σ ρ ∧ w ρ W.mu Φ Ξ ∧
  (∀ (W' : Wd) ds vs, Le W W' → WOk T W' → RepL W' ds vs → ds.length = n → Φ ds W'.mu → Q vs W'.H) ∧ TrX T W Ξ E
def tOfO (w : DWO) : TO := fun σ H Q => ∃ (W : Wd) (ρ : EnvD) (Φ : Option Int → MS → Prop) (Ξ : XD), W.H = H ∧ WOk T W ∧ RepE W σ ρ ∧ w ρ W.mu Φ Ξ ∧
  (∀ (W' : Wd) b, Le W W' → WOk T W' → Φ b W'.mu → Q b W'.H) ∧ TrX T W Ξ E
structure TrS (W : Wd) (Δ : DEnds) (D : Ends) : Prop where
  nx : ∀ (W' : Wd) σ' ρ', Le W W' → WOk T W' → RepE W' σ' ρ' → Δ.nx ρ' W'.mu → D.nx σ' W'.H
  rt : TrQ T W Δ.rt D.rt
  bk : ∀ (W' : Wd) σ' ρ', Le W W' → WOk T W' → RepE W' σ' ρ' → Δ.bk ρ' W'.mu → D.bk σ' W'.H
  ct : ∀ (W' : Wd) σ' ρ', Le W W' → WOk T W' → RepE W' σ' ρ' → Δ.ct ρ' W'.mu → D.ct σ' W'.H
def tOfS (w : DWS) : TS := fun D σ H => ∃ (W : Wd) (ρ : EnvD) (Δ : DEnds) (Ξ : XD), W.H = H ∧ WOk T W ∧ RepE W σ ρ ∧ w ρ W.mu Δ Ξ ∧ TrS T W Δ D ∧ TrX T W Ξ E
end
theorem TrS.mono {T : List (Addr × Str)} {W W' : Wd} {Δ : DEnds} {D : Ends} (h : TrS T W Δ D) (l : Le W W') : TrS T W' Δ D :=
  ⟨fun W1 σ ρ l1 => h.nx W1 σ ρ (l.trans l1), h.rt.mono l, fun W1 σ ρ l1 => h.bk W1 σ ρ (l.trans l1), fun W1 σ ρ l1 => h.ct W1 σ ρ (l.trans l1)⟩
theorem _root_.L2.PE.imp {X : Cx} {e : Expr} {t t' : TE} (h : PE X e t) (i : ∀ σ H Q, t' σ H Q → t σ H Q) : PE X e t' := ⟨fun pins s σ H Q I q => h.run pins s σ H Q I (i _ _ _ q)⟩
theorem _root_.L2.PT.imp {X : Cx} {e : Expr} {t t' : TT} (h : PT X e t) (i : ∀ σ H Q, t' σ H Q → t σ H Q) : PT X e t' := ⟨fun pins s σ H Q I q => h.run pins s σ H Q I (i _ _ _ q)⟩
theorem _root_.L2.PW.imp {X : Cx} {e : Expr} {t t' : TT} (h : PW X e t) (i : ∀ σ H Q, t' σ H Q → t σ H Q) : PW X e t' := ⟨fun wh pins s σ H Q I q => h.run wh pins s σ H Q I (i _ _ _ q)⟩
theorem _root_.L2.PA.imp {X : Cx} {e : List Expr} {t t' : TA} (h : PA X e t) (i : ∀ σ H Q, t' σ H Q → t σ H Q) : PA X e t' := ⟨fun p pins s σ H Q I q => h.run p pins s σ H Q I (i _ _ _ q)⟩
theorem _root_.L2.PS.imp {X : Cx} {e : Stmt} {t t' : TS} (h : PS X e t) (i : ∀ D σ H, t' D σ H → t D σ H) : PS X e t' := ⟨fun pins s σ H D I q => h.run pins s σ H D I (i _ _ _ q)⟩
theorem _root_.L2.PSs.imp {X : Cx} {e : List Stmt} {t t' : TS} (h : PSs X e t) (i : ∀ D σ H, t' D σ H → t D σ H) : PSs X e t' := ⟨fun pins s σ H D I q => h.run pins s σ H D I (i _ _ _ q)⟩

/-! ### names, constants -/
def wVar (i : Nat) : DW := fun ρ mu Φ _ => match gt ρ i with | some d => Φ d mu | none => False
def wC (d : D) : DW := fun _ mu Φ _ => Φ d mu
def DR := D → D → MS → (D → MS → Prop) → Prop
def SimR (T : List (Addr × Str)) (r : R2) (rd : DR) : Prop := ∀ (W : Wd) x y u v Φ Q, WOk T W → Rep W x u → Rep W y v → rd x y W.mu Φ → TrQ T W Φ Q → r u v W.H Q
def SimU (T : List (Addr × Str)) (r : V → Hp → VK → Prop) (rd : D → MS → (D → MS → Prop) → Prop) : Prop := ∀ (W : Wd) x u Φ Q, WOk T W → Rep W x u → rd x W.mu Φ → TrQ T W Φ Q → r u W.H Q
def SimC (T : List (Addr × Str)) (r : List V → Hp → VK → Prop) (rd : List D → MS → (D → MS → Prop) → Prop) : Prop := ∀ (W : Wd) xs us Φ Q, WOk T W → RepL W xs us → rd xs W.mu Φ → TrQ T W Φ Q → r us W.H Q
def wOp (rd : DR) (wa wb : DW) : DW := fun ρ mu Φ Ξ => wa ρ mu (fun x mu1 => wb ρ mu1 (fun y mu2 => rd x y mu2 Φ) Ξ) Ξ
def wUn (rd : D → MS → (D → MS → Prop) → Prop) (wa : DW) : DW := fun ρ mu Φ Ξ => wa ρ mu (fun x mu1 => rd x mu1 Φ) Ξ
def wTest (w : DW) : DWT := fun ρ mu Φ Ξ => w ρ mu (fun d mu1 => match d with | .bl b => Φ b mu1 | _ => False) Ξ
section
variable {X : Cx} {T : List (Addr × Str)} {E : XK} {a b c e : Expr} {wa wb wc : DW} {pos : Pos}
theorem de_var {i : Nat} (h : PE X e (tVar i)) : PE X e (tOf T E (wVar i)) := h.imp fun σ H Q ⟨W, ρ, Φ, Ξ, e1, ok, re, hw, tq, _⟩ => by
  subst e1
  unfold wVar at hw
  cases q : gt ρ i with
  | none => rw [q] at hw; exact hw.elim
  | some d =>
    rw [q] at hw
    obtain ⟨v, h1, h2⟩ := re.2 i d q
    exact ⟨v, h1, tq W d v (.refl W) ok h2 hw⟩
theorem de_con {v : V} {d : D} (h : PE X e (tC v)) (hd : ∀ W, Rep W d v) : PE X e (tOf T E (wC d)) := h.imp fun σ H Q ⟨W, ρ, Φ, Ξ, e1, ok, re, hw, tq, _⟩ => by
  subst e1
  exact tq W d v (.refl W) ok (hd W) hw
theorem de_int {i j pos} : PE X (.Constant (.int i) j pos) (tOf T E (wC (.int i))) := de_con pe_int fun _ => .int
theorem de_bl {i j pos} : PE X (.Constant (.bool i) j pos) (tOf T E (wC (.bl i))) := de_con pe_bl fun _ => .bl
theorem de_non {j pos} : PE X (.Constant .none j pos) (tOf T E (wC .non)) := de_con pe_non fun _ => .non
theorem de_str {i j pos} : PE X (.Constant (.str i) j pos) (tOf T E (wC (.str i))) := de_con pe_str fun _ => .str
theorem de_globI {x : Str} {i : Int} (hg : Gl X x) (hm : ∃ t, X.mg x = some (.int i t)) (hd : (x == ("__debug__" : Str)) = false := by decide) : PE X (.Name x pos) (tOf T E (wC (.int i))) := by
  obtain ⟨t, hm⟩ := hm
  exact de_con (pe_glob (v := .int i) hg hm ⟨_, rfl⟩ hd) fun _ => .int
theorem de_globR {x : Str} {f : Addr} (hg : Gl X x) (hm : X.mg x = some (.ref f)) (hd : (x == ("__debug__" : Str)) = false := by decide) : PE X (.Name x pos) (tOf T E (wC (.ref f))) := de_con (pe_glob (v := .ref f) hg hm rfl hd) fun _ => .ref
theorem de_bty {x : Str} {n : String} (hg : Gl X x) (hm : X.mg x = none) (hv : bootBuiltins x = some (.type n)) (hn : x ≠ "__name__" := by decide) (hd : (x == ("__debug__" : Str)) = false := by decide) : PE X (.Name x pos) (tOf T E (wC (.ty n))) :=
  de_con (pe_bltn hg hm hv (v := .ty n) rfl hn hd) fun _ => .ty
theorem sim_op {r : R2} {rd : DR} (hs : SimR T r rd) {σ : L2.St} {H : Hp} {Q : VK} (h : tOf T E (wOp rd wa wb) σ H Q) : tOp r (tOf T E wa) (tOf T E wb) σ H Q := by
  obtain ⟨W, ρ, Φ, Ξ, e1, ok, re, hw, tq, tx⟩ := h
  exact ⟨W, ρ, _, Ξ, e1, ok, re, hw, fun W1 d1 v1 l1 ok1 r1 h1 => ⟨W1, ρ, _, Ξ, rfl, ok1, re.mono l1, h1, fun W2 d2 v2 l2 ok2 r2 h2 => hs W2 d1 d2 v1 v2 Φ Q ok2 (Rep.mono l2 _ _ r1) r2 h2 (tq.mono (l1.trans l2)), tx.mono l1⟩, tx⟩
theorem de_op {op : Operator} {r : R2} {rd : DR} (ho : OpR X (binaryOp op) r) (hs : SimR T r rd) (ha : PE X a (tOf T E wa)) (hb : PE X b (tOf T E wb)) : PE X (.BinOp a op b pos) (tOf T E (wOp rd wa wb)) :=
  (pe_op ho ha hb).imp fun _ _ _ h => sim_op hs h
theorem de_un {op : UnaryOp} {r : V → Hp → VK → Prop} {rd} (ho : UnR X (unaryOp op) r) (hs : SimU T r rd) (ha : PE X a (tOf T E wa)) : PE X (.UnaryOp op a pos) (tOf T E (wUn rd wa)) :=
  (pe_un ho ha).imp fun _ _ _ ⟨W, ρ, Φ, Ξ, e1, ok, re, hw, tq, tx⟩ => ⟨W, ρ, _, Ξ, e1, ok, re, hw, fun W1 d1 v1 l1 ok1 r1 h1 => hs W1 d1 v1 Φ _ ok1 r1 h1 (tq.mono l1), tx⟩
theorem de_cmp {op : CmpOp} {r : R2} {rd : DR} (ho : OpR X (compareOp op) r) (hs : SimR T r rd) (ha : PE X a (tOf T E wa)) (hb : PE X b (tOf T E wb)) (hm : behindInMarks op b = false) : PE X (.Compare a [op] [b] pos) (tOf T E (wOp rd wa wb)) :=
  (pe_cmpR ho ha hb hm).imp fun _ _ _ h => sim_op hs h
theorem tOf_imp {w : DW} {t : TE} (i : ∀ σ H Q, tOf T E w σ H Q → t σ H Q) {σ : L2.St} {H : Hp} {Q : Bool → Hp → Prop} (h : tOfT T E (wTest w) σ H Q) : tTest t σ H Q := by
  obtain ⟨W, ρ, Φ, Ξ, e1, ok, re, hw, tq, tx⟩ := h
  refine i _ _ _ ⟨W, ρ, _, Ξ, e1, ok, re, hw, fun W1 d1 v1 l1 ok1 r1 h1 => ?_, tx⟩
  cases d1 with
  | bl b => exact ⟨b, r1.bl_of, tq W1 b l1 ok1 h1⟩
  | _ => exact h1.elim
theorem dt_cmp {op : CmpOp} {r : R2} {rd : DR} (ho : OpR X (compareOp op) r) (hs : SimR T r rd) (ha : PE X a (tOf T E wa)) (hb : PE X b (tOf T E wb)) (hm : behindInMarks op b = false) : PT X (.Compare a [op] [b] pos) (tOfT T E (wTest (wOp rd wa wb))) :=
  (pt_cmpR ho ha hb hm).imp fun _ _ _ h => tOf_imp (fun _ _ _ h => sim_op hs h) h
theorem dt_val (h : PE X e (tOf T E wa)) (he : ∀ whole, isTrue e X.env whole = (do let v ← whole; standAt e.pos; holding [v] (truthy v)) := by intro _; rfl) : PT X e (tOfT T E (wTest wa)) :=
  (pt_val h he).imp fun σ H Q ⟨W, ρ, Φ, Ξ, e1, ok, re, hw, tq, tx⟩ => ⟨W, ρ, _, Ξ, e1, ok, re, hw, fun W1 d1 v1 l1 ok1 r1 h1 => by
    cases d1 with
    | bl b => exact ⟨b, r1.bl_of, tq W1 b l1 ok1 h1⟩
    | _ => exact h1.elim, tx⟩
/-- a op1 b op2 c -/
def wChain (rd rd' : DR) (wa wb wc : DW) : DW := fun ρ mu Φ Ξ => wa ρ mu (fun x mu1 => wb ρ mu1 (fun y mu2 => rd x y mu2 fun z mu3 => match z with | .bl true => wc ρ mu3 (fun u mu4 => rd' y u mu4 Φ) Ξ | .bl false => Φ (.bl false) mu3 | _ => False) Ξ) Ξ
theorem sim_chain {r r' : R2} {rd rd' : DR} (hs : SimR T r rd) (hs' : SimR T r' rd') {σ : L2.St} {H : Hp} {Q : VK} (h : tOf T E (wChain rd rd' wa wb wc) σ H Q) : tChain r r' (tOf T E wa) (tOf T E wb) (tOf T E wc) σ H Q := by
  obtain ⟨W, ρ, Φ, Ξ, e1, ok, re, hw, tq, tx⟩ := h
  refine ⟨W, ρ, _, Ξ, e1, ok, re, hw, fun W1 d1 v1 l1 ok1 r1 h1 => ⟨W1, ρ, _, Ξ, rfl, ok1, re.mono l1, h1, fun W2 d2 v2 l2 ok2 r2 h2 => ?_, tx.mono l1⟩, tx⟩
  refine hs W2 d1 d2 v1 v2 _ _ ok2 (Rep.mono l2 _ _ r1) r2 h2 fun W3 d3 v3 l3 ok3 r3 h3 => ?_
  cases d3 with
  | bl b =>
    refine ⟨b, r3.bl_of, ?_⟩
    cases b with
    | true =>
      rw [if_pos rfl]
      exact ⟨W3, ρ, _, Ξ, rfl, ok3, re.mono ((l1.trans l2).trans l3), h3, fun W4 d4 v4 l4 ok4 r4 h4 => hs' W4 d2 d4 v2 v4 Φ Q ok4 (Rep.mono (l3.trans l4) _ _ r2) r4 h4 (tq.mono (((l1.trans l2).trans l3).trans l4)), tx.mono ((l1.trans l2).trans l3)⟩
    | false =>
      rw [if_neg Bool.false_ne_true]
      exact tq W3 _ _ ((l1.trans l2).trans l3) ok3 .bl h3
  | _ => exact h3.elim
theorem de_chain {op op' : CmpOp} {r r' : R2} {rd rd' : DR} (ho : OpR X (compareOp op) r) (ho' : OpR X (compareOp op') r') (hs : SimR T r rd) (hs' : SimR T r' rd') (ha : PE X a (tOf T E wa)) (hb : PE X b (tOf T E wb)) (hc : PE X c (tOf T E wc))
    (hm : lastMarks [op, op'] [b, c] = false := by with_unfolding_all rfl) : PE X (.Compare a [op, op'] [b, c] pos) (tOf T E (wChain rd rd' wa wb wc)) := (pe_chain ho ho' ha hb hc hm).imp fun _ _ _ h => sim_chain hs hs' h
theorem dt_chain {op op' : CmpOp} {r r' : R2} {rd rd' : DR} (ho : OpR X (compareOp op) r) (ho' : OpR X (compareOp op') r') (hs : SimR T r rd) (hs' : SimR T r' rd') (ha : PE X a (tOf T E wa)) (hb : PE X b (tOf T E wb)) (hc : PE X c (tOf T E wc))
    (hm : lastMarks [op, op'] [b, c] = false := by with_unfolding_all rfl) : PT X (.Compare a [op, op'] [b, c] pos) (tOfT T E (wTest (wChain rd rd' wa wb wc))) := (pt_chain ho ho' ha hb hc hm).imp fun _ _ _ h => tOf_imp (fun _ _ _ h => sim_chain hs hs' h) h

/-! ### tests -/
def truD (d : D) (mu : MS) : Option Bool := match d with
  | .non => some false
  | .bl b => some b
  | .int i => some (i != 0)
  | .str s => if s.length ≤ 100000 then some ((s.length : Int) != 0) else none
  | .tup xs => some (!xs.isEmpty)
  | .lst xs => some (!xs.isEmpty)
  | .loc k => match mu[k]? with | some (.lst xs) => some (!xs.isEmpty) | _ => none
  | _ => none
def wTru (w : DW) : DWT := fun ρ mu Φ Ξ => w ρ mu (fun d mu1 => match truD d mu1 with | some b => Φ b mu1 | none => False) Ξ
theorem isEmpty_len {W : Wd} {xs : List D} {vs : List V} (h : RepL W xs vs) : (!vs.isEmpty) = !xs.isEmpty := by
  cases xs with
  | nil => rw [h.nil_of]; rfl
  | cons d r =>
    obtain ⟨v, s, rfl, _⟩ := h.uncons
    rfl
theorem dt_truth (h : PE X e (tOf T E wa)) (he : ∀ whole, isTrue e X.env whole = (do let v ← whole; standAt e.pos; holding [v] (truthy v)) := by intro _; rfl) : PT X e (tOfT T E (wTru wa)) :=
  (pt_truth h he).imp fun σ H Q h => by
    obtain ⟨W, ρ, Φ, Ξ, e1, ok, re, hw, tq, tx⟩ := h
    refine ⟨W, ρ, _, Ξ, e1, ok, re, hw, fun W1 d1 v1 l1 ok1 r1 h1 => ?_, tx⟩
    dsimp only at h1
    cases q : truD d1 W1.mu with
    | none => rw [q] at h1; exact h1.elim
    | some k =>
      rw [q] at h1
      refine ⟨k, ?_, tq W1 k l1 ok1 h1⟩
      cases d1 with
      | non => rw [r1.non_of]; cases q; rfl
      | bl b => rw [r1.bl_of]; cases q; rfl
      | int b => rw [r1.int_of]; cases q; rfl
      | str z =>
        rw [r1.str_of]
        unfold truD at q
        dsimp only at q
        split at q
        · cases q
          exact ⟨Nat.le_trans (by assumption) (by decide), rfl⟩
        · cases q
      | tup xs =>
        obtain ⟨p, vs, rfl, n, g1, g2⟩ := r1.tup_of
        cases q
        exact .inr (.inl ⟨vs, SqT.of g1, (isEmpty_len g2).symm⟩)
      | lst xs =>
        obtain ⟨p, vs, rfl, n, g1, g2⟩ := r1.lst_of
        cases q
        exact .inl ⟨vs, SqL.of g1, (isEmpty_len g2).symm⟩
      | loc k =>
        obtain ⟨p, g0, rfl⟩ := r1.loc_of
        unfold truD at q
        dsimp only at q
        cases g : W1.mu[k]? with
        | none => rw [g] at q; cases q
        | some m =>
          rw [g] at q
          cases m with
          | lst xs =>
            cases q
            obtain ⟨vs, g1, g2⟩ := ok1.ob k p _ g0 g
            exact .inl ⟨vs, .inl (.inl g1), (isEmpty_len g2).symm⟩
          | _ => cases q
      | _ => cases q
def wAnd (t u : DWT) : DWT := fun ρ mu Φ Ξ => t ρ mu (fun b mu1 => if b = true then u ρ mu1 Φ Ξ else Φ false mu1) Ξ
def wOr (t u : DWT) : DWT := fun ρ mu Φ Ξ => t ρ mu (fun b mu1 => if b = true then Φ true mu1 else u ρ mu1 Φ Ξ) Ξ
def wNot (t : DWT) : DWT := fun ρ mu Φ Ξ => t ρ mu (fun b mu1 => Φ (!b) mu1) Ξ
variable {ta tb : DWT} {rest : List Expr}
theorem sim_and {σ : L2.St} {H : Hp} {Q : Bool → Hp → Prop} (h : tOfT T E (wAnd ta tb) σ H Q) : tAnd (tOfT T E ta) (tOfT T E tb) σ H Q := by
  obtain ⟨W, ρ, Φ, Ξ, e1, ok, re, hw, tq, tx⟩ := h
  refine ⟨W, ρ, _, Ξ, e1, ok, re, hw, fun W1 b l1 ok1 h1 => ?_, tx⟩
  cases b with
  | true =>
    rw [if_pos rfl] at h1 ⊢
    exact ⟨W1, ρ, Φ, Ξ, rfl, ok1, re.mono l1, h1, fun W2 b2 l2 => tq W2 b2 (l1.trans l2), tx.mono l1⟩
  | false =>
    rw [if_neg Bool.false_ne_true] at h1 ⊢
    exact tq W1 _ l1 ok1 h1
theorem sim_or {σ : L2.St} {H : Hp} {Q : Bool → Hp → Prop} (h : tOfT T E (wOr ta tb) σ H Q) : tOr (tOfT T E ta) (tOfT T E tb) σ H Q := by
  obtain ⟨W, ρ, Φ, Ξ, e1, ok, re, hw, tq, tx⟩ := h
  refine ⟨W, ρ, _, Ξ, e1, ok, re, hw, fun W1 b l1 ok1 h1 => ?_, tx⟩
  cases b with
  | false =>
    rw [if_neg Bool.false_ne_true] at h1 ⊢
    exact ⟨W1, ρ, Φ, Ξ, rfl, ok1, re.mono l1, h1, fun W2 b2 l2 => tq W2 b2 (l1.trans l2), tx.mono l1⟩
  | true =>
    rw [if_pos rfl] at h1 ⊢
    exact tq W1 _ l1 ok1 h1
theorem dw_and1 (ha : PT X a (tOfT T E ta)) : PW X (.BoolOp .And [a] pos) (tOfT T E ta) := pw_and1 ha
theorem dw_or1 (ha : PT X a (tOfT T E ta)) : PW X (.BoolOp .Or [a] pos) (tOfT T E ta) := pw_or1 ha
theorem dw_and (ha : PT X a (tOfT T E ta)) (hb : PW X (.BoolOp .And (b :: rest) pos) (tOfT T E tb)) : PW X (.BoolOp .And (a :: b :: rest) pos) (tOfT T E (wAnd ta tb)) := (pw_and ha hb).imp fun _ _ _ h => sim_and h
theorem dw_or (ha : PT X a (tOfT T E ta)) (hb : PW X (.BoolOp .Or (b :: rest) pos) (tOfT T E tb)) : PW X (.BoolOp .Or (a :: b :: rest) pos) (tOfT T E (wOr ta tb)) := (pw_or ha hb).imp fun _ _ _ h => sim_or h
theorem dt_not (ha : PT X a (tOfT T E ta)) : PT X (.UnaryOp .Not a pos) (tOfT T E (wNot ta)) := (pt_not ha).imp fun _ _ _ ⟨W, ρ, Φ, Ξ, e1, ok, re, hw, tq, tx⟩ => ⟨W, ρ, _, Ξ, e1, ok, re, hw, fun W1 b l1 ok1 h1 => tq W1 _ l1 ok1 h1, tx⟩
/-- as values: all but the last are bools -/
def wAndV (wa wb : DW) : DW := fun ρ mu Φ Ξ => wa ρ mu (fun x mu1 => match x with | .bl true => wb ρ mu1 Φ Ξ | .bl false => Φ (.bl false) mu1 | _ => False) Ξ
def wOrV (wa wb : DW) : DW := fun ρ mu Φ Ξ => wa ρ mu (fun x mu1 => match x with | .bl true => Φ (.bl true) mu1 | .bl false => wb ρ mu1 Φ Ξ | _ => False) Ξ
def wNotV (wa : DW) : DW := fun ρ mu Φ Ξ => wa ρ mu (fun x mu1 => match x with | .bl b => Φ (.bl (!b)) mu1 | _ => False) Ξ
theorem de_one {op} (h : PE X a (tOf T E wa)) : PE X (.BoolOp op [a] pos) (tOf T E wa) := pe_one h
theorem de_and (ha : PE X a (tOf T E wa)) (hb : PE X (.BoolOp .And (b :: rest) pos) (tOf T E wb)) : PE X (.BoolOp .And (a :: b :: rest) pos) (tOf T E (wAndV wa wb)) := (pe_and ha hb).imp fun σ H Q h => by
  obtain ⟨W, ρ, Φ, Ξ, e1, ok, re, hw, tq, tx⟩ := h
  refine ⟨W, ρ, _, Ξ, e1, ok, re, hw, fun W1 d v l1 ok1 r1 h1 => ?_, tx⟩
  cases d with
  | bl k =>
    refine ⟨k, r1.bl_of, ?_⟩
    cases k with
    | true =>
      rw [if_pos rfl]
      exact ⟨W1, ρ, Φ, Ξ, rfl, ok1, re.mono l1, h1, tq.mono l1, tx.mono l1⟩
    | false =>
      rw [if_neg Bool.false_ne_true]
      exact tq W1 _ _ l1 ok1 .bl h1
  | _ => exact h1.elim
theorem de_or (ha : PE X a (tOf T E wa)) (hb : PE X (.BoolOp .Or (b :: rest) pos) (tOf T E wb)) : PE X (.BoolOp .Or (a :: b :: rest) pos) (tOf T E (wOrV wa wb)) := (pe_or ha hb).imp fun σ H Q h => by
  obtain ⟨W, ρ, Φ, Ξ, e1, ok, re, hw, tq, tx⟩ := h
  refine ⟨W, ρ, _, Ξ, e1, ok, re, hw, fun W1 d v l1 ok1 r1 h1 => ?_, tx⟩
  cases d with
  | bl k =>
    refine ⟨k, r1.bl_of, ?_⟩
    cases k with
    | false =>
      rw [if_neg Bool.false_ne_true]
      exact ⟨W1, ρ, Φ, Ξ, rfl, ok1, re.mono l1, h1, tq.mono l1, tx.mono l1⟩
    | true =>
      rw [if_pos rfl]
      exact tq W1 _ _ l1 ok1 .bl h1
  | _ => exact h1.elim
theorem de_not (ha : PE X a (tOf T E wa)) : PE X (.UnaryOp .Not a pos) (tOf T E (wNotV wa)) := (pe_not ha).imp fun σ H Q ⟨W, ρ, Φ, Ξ, e1, ok, re, hw, tq, tx⟩ => ⟨W, ρ, _, Ξ, e1, ok, re, hw, fun W1 d v l1 ok1 r1 h1 => by
    cases d with
    | bl b => exact ⟨b, r1.bl_of, tq W1 _ _ l1 ok1 .bl h1⟩
    | _ => exact h1.elim, tx⟩
def wIf (t : DWT) (wa wb : DW) : DW := fun ρ mu Φ Ξ => t ρ mu (fun b mu1 => if b = true then wa ρ mu1 Φ Ξ else wb ρ mu1 Φ Ξ) Ξ
theorem de_if (hc : PT X c (tOfT T E ta)) (ha : PE X a (tOf T E wa)) (hb : PE X b (tOf T E wb)) : PE X (.IfExp c a b pos) (tOf T E (wIf ta wa wb)) := (pe_ifExp hc ha hb).imp fun σ H Q h => by
  obtain ⟨W, ρ, Φ, Ξ, e1, ok, re, hw, tq, tx⟩ := h
  refine ⟨W, ρ, _, Ξ, e1, ok, re, hw, fun W1 k l1 ok1 h1 => ?_, tx⟩
  cases k with
  | true =>
    rw [if_pos rfl] at h1 ⊢
    exact ⟨W1, ρ, Φ, Ξ, rfl, ok1, re.mono l1, h1, tq.mono l1, tx.mono l1⟩
  | false =>
    rw [if_neg Bool.false_ne_true] at h1 ⊢
    exact ⟨W1, ρ, Φ, Ξ, rfl, ok1, re.mono l1, h1, tq.mono l1, tx.mono l1⟩

/-! ### arguments, displays -/
def wNil : DWA := fun _ mu Φ _ => Φ [] mu
def wCons (w : DW) (wr : DWA) : DWA := fun ρ mu Φ Ξ => w ρ mu (fun d mu1 => wr ρ mu1 (fun ds mu2 => Φ (d :: ds) mu2) Ξ) Ξ
variable {es : List Expr} {n : Nat} {wr : DWA}
theorem da_nil : PA X [] (tOfA T E 0 wNil) := pa_nil.imp fun σ H Q ⟨W, ρ, Φ, Ξ, e1, ok, re, hw, tq, tx⟩ => by
  subst e1
  exact tq W [] [] (.refl W) ok .nil rfl hw
theorem da_cons (ha : PE X e (tOf T E wa)) (hr : PA X es (tOfA T E n wr)) (hs : starEach (e :: es) X.env = (false, eval e X.env) :: starEach es X.env := by rfl) : PA X (e :: es) (tOfA T E (n + 1) (wCons wa wr)) :=
  (pa_cons ha hr hs).imp fun σ H Q ⟨W, ρ, Φ, Ξ, e1, ok, re, hw, tq, tx⟩ => ⟨W, ρ, _, Ξ, e1, ok, re, hw, fun W1 d v l1 ok1 r1 h1 => ⟨W1, ρ, _, Ξ, rfl, ok1, re.mono l1, h1, fun W2 ds vs l2 ok2 r2 hl h2 =>
    tq W2 _ _ (l1.trans l2) ok2 (.cons (Rep.mono l2 _ _ r1) r2) (by rw [List.length_cons, hl]) h2, tx.mono l1⟩, tx⟩
def wTup (wr : DWA) : DW := fun ρ mu Φ Ξ => wr ρ mu (fun ds mu1 => Φ (.tup ds) mu1) Ξ
def wLst (wr : DWA) : DW := fun ρ mu Φ Ξ => wr ρ mu (fun ds mu1 => Φ (.lst ds) mu1) Ξ
def wLstM (wr : DWA) : DW := fun ρ mu Φ Ξ => wr ρ mu (fun ds mu1 => Φ (.loc mu1.length) (mu1 ++ [.lst ds])) Ξ
theorem sz1000 {n : Nat} (h : n ≤ 1000) : n ≤ sizeLine := Nat.le_trans h (by decide)
theorem TrQ.tup {W : Wd} {Φ : D → MS → Prop} {Q : VK} {ds : List D} {vs : List V} (tq : TrQ T W Φ Q) (ok : WOk T W) (r : RepL W ds vs) (h : Φ (.tup ds) W.mu) : ∀ p, W.H p = none → Q (.ref p) (upd W.H p (.tup vs)) :=
  fun p hp => tq { W with H := upd W.H p (.tup vs) } _ _ (Le.new ok hp) (ok.new hp) (Rep.newTup ok hp r) h
theorem TrQ.lst {W : Wd} {Φ : D → MS → Prop} {Q : VK} {ds : List D} {vs : List V} (tq : TrQ T W Φ Q) (ok : WOk T W) (r : RepL W ds vs) (h : Φ (.lst ds) W.mu) : ∀ p, W.H p = none → Q (.ref p) (upd W.H p (.lst vs)) :=
  fun p hp => tq { W with H := upd W.H p (.lst vs) } _ _ (Le.new ok hp) (ok.new hp) (Rep.newLst ok hp r) h
theorem TrQ.lstM {W : Wd} {Φ : D → MS → Prop} {Q : VK} {ds : List D} {vs : List V} (tq : TrQ T W Φ Q) (ok : WOk T W) (r : RepL W ds vs) (h : Φ (.loc W.mu.length) (W.mu ++ [.lst ds])) : ∀ p, W.H p = none → Q (.ref p) (upd W.H p (.lst vs)) :=
  fun p hp => tq (W.add p (.lst vs) (.lst ds)) _ _ (Le.add ok hp) (ok.add hp ⟨vs, upd_same, RepL.mono (Le.add ok hp) _ _ r⟩) (Rep.add ok) h
theorem de_tup {x1} (h : PA X es (tOfA T E n wr)) (hn : n ≤ 1000 := by decide) : PE X (.Tuple es x1 pos) (tOf T E (wTup wr)) := (pe_tup h).imp fun σ H Q ⟨W, ρ, Φ, Ξ, e1, ok, re, hw, tq, tx⟩ =>
  ⟨W, ρ, _, Ξ, e1, ok, re, hw, fun W1 ds vs l1 ok1 r1 hl h1 => ⟨by rw [r1.length, hl]; exact sz1000 hn, (tq.mono l1).tup ok1 r1 h1⟩, tx⟩
theorem de_lst (h : PA X es (tOfA T E n wr)) (hn : n ≤ 1000 := by decide) : PE X (.List es pos) (tOf T E (wLst wr)) := (pe_lst h).imp fun σ H Q ⟨W, ρ, Φ, Ξ, e1, ok, re, hw, tq, tx⟩ =>
  ⟨W, ρ, _, Ξ, e1, ok, re, hw, fun W1 ds vs l1 ok1 r1 hl h1 => ⟨by rw [r1.length, hl]; exact sz1000 hn, (tq.mono l1).lst ok1 r1 h1⟩, tx⟩
theorem de_lstM (h : PA X es (tOfA T E n wr)) (hn : n ≤ 1000 := by decide) : PE X (.List es pos) (tOf T E (wLstM wr)) := (pe_lst h).imp fun σ H Q ⟨W, ρ, Φ, Ξ, e1, ok, re, hw, tq, tx⟩ =>
  ⟨W, ρ, _, Ξ, e1, ok, re, hw, fun W1 ds vs l1 ok1 r1 hl h1 => ⟨by rw [r1.length, hl]; exact sz1000 hn, (tq.mono l1).lstM ok1 r1 h1⟩, tx⟩

/-! ### calls -/
abbrev DSp := List D → MS → (D → MS → Prop) → XD → Prop
def toSp (T : List (Addr × Str)) (S : DSp) : Sp := fun vs H Q E => ∃ (W : Wd) (ds : List D) (Φ : D → MS → Prop) (Ξ : XD), W.H = H ∧ WOk T W ∧ RepL W ds vs ∧ S ds W.mu Φ Ξ ∧ TrQ T W Φ Q ∧ TrX T W Ξ E
def wCall (S : DSp) (wr : DWA) : DW := fun ρ mu Φ Ξ => wr ρ mu (fun ds mu1 => S ds mu1 Φ Ξ) Ξ
def wCall0 (S : DSp) (wr : DWA) : DW := fun ρ mu Φ Ξ => wr ρ mu (fun ds mu1 => S ds mu1 Φ X0) Ξ
variable {k : Nat} {f : Addr} {fd : FuncData} {ps : List Str} {S : DSp} {x : Str} {p : Pos}
theorem sim_call {σ : L2.St} {H : Hp} {Q : VK} (h : tOf T E (wCall S wr) σ H Q) : tCall (toSp T S) [] E (tOfA T E n wr) σ H Q := by
  obtain ⟨W, ρ, Φ, Ξ, e1, ok, re, hw, tq, tx⟩ := h
  refine ⟨W, ρ, _, Ξ, e1, ok, re, hw, fun W1 ds vs l1 ok1 r1 hl h1 => ?_, tx⟩
  show toSp T S (vs ++ []) W1.H Q E
  rw [List.append_nil]
  exact ⟨W1, ds, Φ, Ξ, rfl, ok1, r1, h1, tq.mono l1, tx.mono l1⟩
theorem sim_call0 {σ : L2.St} {H : Hp} {Q : VK} (h : tOf T E (wCall0 S wr) σ H Q) : tCall (toSp T S) [] E0 (tOfA T E n wr) σ H Q := by
  obtain ⟨W, ρ, Φ, Ξ, e1, ok, re, hw, tq, tx⟩ := h
  refine ⟨W, ρ, _, Ξ, e1, ok, re, hw, fun W1 ds vs l1 ok1 r1 hl h1 => ?_, tx⟩
  show toSp T S (vs ++ []) W1.H Q E0
  rw [List.append_nil]
  exact ⟨W1, ds, Φ, X0, rfl, ok1, r1, h1, tq.mono l1, TrX.none⟩
/-- what is known of a def of the text -/
structure Cal (P : Program) (w : World) (K : PySem.W.Frag) (mg : Str → Option Value) (base : Heap) (CX : CXT) (k : Nat) (x : Str) (ps : List Str) (sp : Sp) : Prop where
  ex : ∃ (f : Addr) (fd : FuncData), FnOk P w K mg base CX k f fd ps sp ∧ mg x = some (.ref f) ∧ PySem.W.keepIn K (.ref f) = true ∧ Binds K fd ps []
/-- f(e, ..), f a def that raises nothing -/
theorem de_call (C : Cal X.prog X.w X.K X.mg X.base CX0 k x ps (toSp T S)) (hr : Room k X.A) (hg : Gl X x) (ha : PA X (e :: es) (tOfA T E n wr)) (hdb : (x == ("__debug__" : Str)) = false := by decide)
    (he : starEach (e :: es) X.env = (false, eval e X.env) :: starEach es X.env := by rfl) (hpl : (backTo pos (starEach es X.env)).any (·.1) = false := by rfl) : PE X (.Call (.Name x p) (e :: es) [] pos) (tOf T E (wCall0 S wr)) := by
  obtain ⟨f, fd, F, hm, hk, hb⟩ := C.ex
  exact (pe_call F hr hg hm hk hb .nil pass0 ha hdb he hpl).imp fun _ _ _ h => sim_call0 h
theorem de_call0 (C : Cal X.prog X.w X.K X.mg X.base CX0 k x ps (toSp T S)) (hr : Room k X.A) (hg : Gl X x) (hdb : (x == ("__debug__" : Str)) = false := by decide) : PE X (.Call (.Name x p) [] [] pos) (tOf T E (wCall0 S wNil)) := by
  obtain ⟨f, fd, F, hm, hk, hb⟩ := C.ex
  exact (pe_call0 F hr hg hm hk hb .nil pass0 hdb).imp fun _ _ Q h => by
    obtain ⟨W, ρ, Φ, Ξ, e1, ok, re, hw, tq, tx⟩ := h
    exact ⟨W, [], Φ, X0, e1, ok, .nil, hw, tq, TrX.none⟩
theorem passN {X : Cx} : Passes (L2N.CX X.prog X.w) X E0 := fun _ _ _ _ _ _ _ h => by
  obtain ⟨_, _, _, _, _, _, _, _, _, _, _, _, z⟩ := h
  exact z.elim
/-- .. that may raise -/
theorem de_callX (C : Cal X.prog X.w X.K X.mg X.base (L2N.CX X.prog X.w) k x ps (toSp T S)) (hr : Room k X.A) (hg : Gl X x) (hx : Passes (L2N.CX X.prog X.w) X E) (ha : PA X (e :: es) (tOfA T E n wr)) (hdb : (x == ("__debug__" : Str)) = false := by decide)
    (he : starEach (e :: es) X.env = (false, eval e X.env) :: starEach es X.env := by rfl) (hpl : (backTo pos (starEach es X.env)).any (·.1) = false := by rfl) : PE X (.Call (.Name x p) (e :: es) [] pos) (tOf T E (wCall S wr)) := by
  obtain ⟨f, fd, F, hm, hk, hb⟩ := C.ex
  exact (pe_call F hr hg hm hk hb .nil hx ha hdb he hpl).imp fun _ _ _ h => sim_call h
/-- .. that raises nothing here -/
theorem de_callN (C : Cal X.prog X.w X.K X.mg X.base (L2N.CX X.prog X.w) k x ps (toSp T S)) (hr : Room k X.A) (hg : Gl X x) (ha : PA X (e :: es) (tOfA T E n wr)) (hdb : (x == ("__debug__" : Str)) = false := by decide)
    (he : starEach (e :: es) X.env = (false, eval e X.env) :: starEach es X.env := by rfl) (hpl : (backTo pos (starEach es X.env)).any (·.1) = false := by rfl) : PE X (.Call (.Name x p) (e :: es) [] pos) (tOf T E (wCall0 S wr)) := by
  obtain ⟨f, fd, F, hm, hk, hb⟩ := C.ex
  exact (pe_call F hr hg hm hk hb .nil passN ha hdb he hpl).imp fun _ _ _ h => sim_call0 h
/-- built-ins -/
def wB (rd : List D → MS → (D → MS → Prop) → Prop) (wr : DWA) : DW := fun ρ mu Φ Ξ => wr ρ mu (fun ds mu1 => rd ds mu1 Φ) Ξ
theorem sim_B {r rd} (hs : SimC T r rd) {σ : L2.St} {H : Hp} {Q : VK} (h : tOf T E (wB rd wr) σ H Q) : tCB r (tOfA T E n wr) σ H Q := by
  obtain ⟨W, ρ, Φ, Ξ, e1, ok, re, hw, tq, tx⟩ := h
  exact ⟨W, ρ, _, Ξ, e1, ok, re, hw, fun W1 ds vs l1 ok1 r1 hl h1 => hs W1 ds vs Φ Q ok1 r1 h1 (tq.mono l1), tx⟩
theorem de_B {id : String} {r rd} (hc : CallR X (.builtin id) r) (hs : SimC T r rd) (hg : Gl X x) (hm : X.mg x = none) (hv : bootBuiltins x = some (.builtin id)) (ha : PA X (e :: es) (tOfA T E n wr)) (hn : x ≠ "__name__" := by decide) (hdb : (x == ("__debug__" : Str)) = false := by decide)
    (he : starEach (e :: es) X.env = (false, eval e X.env) :: starEach es X.env := by rfl) (hpl : (backTo pos (starEach es X.env)).any (·.1) = false := by rfl) : PE X (.Call (.Name x p) (e :: es) [] pos) (tOf T E (wB rd wr)) :=
  (pe_callB hc hg hm hv ha hn hdb he hpl).imp fun _ _ _ h => sim_B hs h
theorem de_BT {id : String} {r rd} (hc : CallR X (.type id) r) (hs : SimC T r rd) (hg : Gl X x) (hm : X.mg x = none) (hv : bootBuiltins x = some (.type id)) (ha : PA X (e :: es) (tOfA T E n wr)) (hn : x ≠ "__name__" := by decide) (hdb : (x == ("__debug__" : Str)) = false := by decide)
    (he : starEach (e :: es) X.env = (false, eval e X.env) :: starEach es X.env := by rfl) (hpl : (backTo pos (starEach es X.env)).any (·.1) = false := by rfl) : PE X (.Call (.Name x p) (e :: es) [] pos) (tOf T E (wB rd wr)) :=
  (pe_callTy hc hg hm hv ha hn hdb he hpl).imp fun _ _ _ h => sim_B hs h
/-- subscripts -/
theorem de_ix {r : R2} {rd : DR} (hr : IxR X r) (hs : SimR T r rd) (ha : PE X a (tOf T E wa)) (hb : PE X b (tOf T E wb)) (hp : PlainIx b := by exact fun _ _ => rfl) : PE X (.Subscript a b pos) (tOf T E (wOp rd wa wb)) :=
  (pe_ix hr ha hb hp).imp fun _ _ _ h => sim_op hs h
def wNoPart : DWO := fun _ mu Φ _ => Φ none mu
def wPart (w : DW) : DWO := fun ρ mu Φ Ξ => w ρ mu (fun d mu1 => match d with | .int i => Φ (some i) mu1 | _ => False) Ξ
theorem do_none : PO X none (tOfO T E wNoPart) := ⟨fun pins s σ H Q I ⟨W, ρ, Φ, Ξ, e1, ok, re, hw, tq, tx⟩ => po_none.run pins s σ H Q I (by subst e1; exact tq W _ (.refl W) ok hw)⟩
theorem do_some (h : PE X e (tOf T E wa)) : PO X (some e) (tOfO T E (wPart wa)) := ⟨fun pins s σ H Q I ⟨W, ρ, Φ, Ξ, e1, ok, re, hw, tq, tx⟩ => (po_some h).run pins s σ H Q I ⟨W, ρ, _, Ξ, e1, ok, re, hw, fun W1 d v l1 ok1 r1 h1 => by
    cases d with
    | int i => exact ⟨i, r1.int_of, tq W1 _ l1 ok1 h1⟩
    | _ => exact h1.elim, tx⟩⟩
def SimSl (T : List (Addr × Str)) (r : V → Option Int → Option Int → Hp → VK → Prop) (rd : D → Option Int → Option Int → MS → (D → MS → Prop) → Prop) : Prop := ∀ (W : Wd) x u lo hi Φ Q, WOk T W → Rep W x u → rd x lo hi W.mu Φ → TrQ T W Φ Q → r u lo hi W.H Q
def wSl (rd : D → Option Int → Option Int → MS → (D → MS → Prop) → Prop) (w : DW) (wl wh : DWO) : DW := fun ρ mu Φ Ξ => w ρ mu (fun x mu1 => wl ρ mu1 (fun l mu2 => wh ρ mu2 (fun h mu3 => rd x l h mu3 Φ) Ξ) Ξ) Ξ
theorem de_slice {r rd} {lo hi : Option Expr} {wl wh : DWO} {p2 : Pos} (hr : SlR X r) (hs : SimSl T r rd) (he : PE X e (tOf T E wa)) (hl : PO X lo (tOfO T E wl)) (hh : PO X hi (tOfO T E wh)) : PE X (.Subscript e (.Slice lo hi none p2) pos) (tOf T E (wSl rd wa wl wh)) :=
  (pe_slice hr he hl hh).imp fun σ H Q ⟨W, ρ, Φ, Ξ, e1, ok, re, hw, tq, tx⟩ => ⟨W, ρ, _, Ξ, e1, ok, re, hw, fun W1 d v l1 ok1 r1 h1 => ⟨W1, ρ, _, Ξ, rfl, ok1, re.mono l1, h1, fun W2 o l2 ok2 h2 =>
    ⟨W2, ρ, _, Ξ, rfl, ok2, re.mono (l1.trans l2), h2, fun W3 o' l3 ok3 h3 => hs W3 d v o o' Φ Q ok3 (Rep.mono (l2.trans l3) _ _ r1) h3 (tq.mono ((l1.trans l2).trans l3)), tx.mono (l1.trans l2)⟩, tx.mono l1⟩, tx⟩
end

/-! ### statements -/
def wNext : DWS := fun ρ mu Δ _ => Δ.nx ρ mu
def wSeq (t u : DWS) : DWS := fun ρ mu Δ Ξ => t ρ mu ⟨fun ρ' mu' => u ρ' mu' Δ Ξ, Δ.rt, Δ.bk, Δ.ct⟩ Ξ
def wAsg (i : Nat) (w : DW) : DWS := fun ρ mu Δ Ξ => w ρ mu (fun d mu1 => Δ.nx (ρ.set i (some d)) mu1) Ξ
def wRet (w : DW) : DWS := fun ρ mu Δ Ξ => w ρ mu Δ.rt Ξ
def wDrop (w : DW) : DWS := fun ρ mu Δ Ξ => w ρ mu (fun _ mu1 => Δ.nx ρ mu1) Ξ
def wIfS (t : DWT) (u v : DWS) : DWS := fun ρ mu Δ Ξ => t ρ mu (fun b mu1 => if b = true then u ρ mu1 Δ Ξ else v ρ mu1 Δ Ξ) Ξ
section
variable {X : Cx} {T : List (Addr × Str)} {E : XK} {a b c e : Expr} {wa wb wc : DW} {pos : Pos} {st : Stmt} {rest sa sb : List Stmt} {t u : DWS} {tt : DWT}
theorem dss_nil : PSs X [] (tOfS T E wNext) := pss_nil.imp fun D σ H ⟨W, ρ, Δ, Ξ, e1, ok, re, hw, ts, tx⟩ => by
  subst e1
  exact ts.nx W σ ρ (.refl W) ok re hw
theorem dss_cons (h1 : PS X st (tOfS T E t)) (h2 : PSs X rest (tOfS T E u)) : PSs X (st :: rest) (tOfS T E (wSeq t u)) := (pss_cons h1 h2).imp fun D σ H ⟨W, ρ, Δ, Ξ, e1, ok, re, hw, ts, tx⟩ =>
  ⟨W, ρ, _, Ξ, e1, ok, re, hw, ⟨fun W1 σ1 ρ1 l1 ok1 re1 h1 => ⟨W1, ρ1, Δ, Ξ, rfl, ok1, re1, h1, ts.mono l1, tx.mono l1⟩, ts.rt, ts.bk, ts.ct⟩, tx⟩
theorem dss_one (h1 : PS X st (tOfS T E t)) : PSs X [st] (tOfS T E t) := pss_one h1
theorem ds_pass : PS X (.Pass pos) (tOfS T E wNext) := ps_pass.imp fun D σ H ⟨W, ρ, Δ, Ξ, e1, ok, re, hw, ts, tx⟩ => by
  subst e1
  exact ts.nx W σ ρ (.refl W) ok re hw
theorem ds_ret (h : PE X e (tOf T E wa)) : PS X (.Return (some e) pos) (tOfS T E (wRet wa)) := (ps_ret h).imp fun D σ H ⟨W, ρ, Δ, Ξ, e1, ok, re, hw, ts, tx⟩ => ⟨W, ρ, _, Ξ, e1, ok, re, hw, ts.rt, tx⟩
theorem sim_asg {i : Nat} {te : TE} (im : ∀ σ H Q, tOf T E wa σ H Q → te σ H Q) {D : Ends} {σ : L2.St} {H : Hp} (h : tOfS T E (wAsg i wa) D σ H) : tAsg te (gName i) D σ H := by
  obtain ⟨W, ρ, Δ, Ξ, e1, ok, re, hw, ts, tx⟩ := h
  exact im _ _ _ ⟨W, ρ, _, Ξ, e1, ok, re, hw, fun W1 d v l1 ok1 r1 h1 => ts.nx W1 _ _ l1 ok1 ((re.mono l1).set r1 i) h1, tx⟩
theorem ds_set {i : Nat} (h : PS X st (tAsg (tOf T E wa) (gName i))) : PS X st (tOfS T E (wAsg i wa)) := h.imp fun _ _ _ h => sim_asg (fun _ _ _ h => h) h
theorem ds_expr (he : PE X e (tOf T E wa)) (hs : swapsWith e none pos.line X.env = pure false := by rfl) : PS X (.Expr e pos) (tOfS T E (wDrop wa)) := (ps_expr he hs).imp fun D σ H ⟨W, ρ, Δ, Ξ, e1, ok, re, hw, ts, tx⟩ =>
  ⟨W, ρ, _, Ξ, e1, ok, re, hw, fun W1 d v l1 ok1 r1 h1 => ts.nx W1 _ _ l1 ok1 (re.mono l1) h1, tx⟩
theorem ds_if (hc : PT X c (tOfT T E tt)) (ha : PSs X sa (tOfS T E t)) (hb : PSs X sb (tOfS T E u)) : PS X (.If c sa sb pos) (tOfS T E (wIfS tt t u)) := (ps_if hc ha hb).imp fun D σ H h => by
  obtain ⟨W, ρ, Δ, Ξ, e1, ok, re, hw, ts, tx⟩ := h
  refine ⟨W, ρ, _, Ξ, e1, ok, re, hw, fun W1 k l1 ok1 h1 => ?_, tx⟩
  cases k with
  | true =>
    rw [if_pos rfl] at h1 ⊢
    exact ⟨W1, ρ, Δ, Ξ, rfl, ok1, re.mono l1, h1, ts.mono l1, tx.mono l1⟩
  | false =>
    rw [if_neg Bool.false_ne_true] at h1 ⊢
    exact ⟨W1, ρ, Δ, Ξ, rfl, ok1, re.mono l1, h1, ts.mono l1, tx.mono l1⟩
/-- a, b = x, y -/
def wPar (i j : Nat) (wr : DWA) : DWS := fun ρ mu Δ Ξ => wr ρ mu (fun ds mu1 => match ds with | [x, y] => Δ.nx ((ρ.set i (some x)).set j (some y)) mu1 | _ => False) Ξ
theorem ds_par {i j n : Nat} {wr : DWA} (h : PS X st (tPar i j (tOfA T E n wr))) : PS X st (tOfS T E (wPar i j wr)) := h.imp fun D σ H ⟨W, ρ, Δ, Ξ, e1, ok, re, hw, ts, tx⟩ =>
  ⟨W, ρ, _, Ξ, e1, ok, re, hw, fun W1 ds vs l1 ok1 r1 hl h1 => by
    match ds, h1 with
    | [x, y], h1 =>
      obtain ⟨v, r, rfl, ra, rb⟩ := r1.uncons
      obtain ⟨v2, r2, rfl, rb, rc⟩ := rb.uncons
      rw [rc.nil_of]
      exact ⟨v, v2, rfl, ts.nx W1 _ _ l1 ok1 (((re.mono l1).set ra i).set rb j) h1⟩, tx⟩
/-- the list in slot i does not change from here on -/
def wFrz (i : Nat) (u : DWS) : DWS := fun ρ mu Δ Ξ => match gt ρ i with
  | some (.loc k) => (match mu[k]? with | some (.lst xs) => u (ρ.set i (some (.lst xs))) (mu.set k .gone) Δ Ξ | _ => False)
  | _ => False
theorem RepE.frz {W : Wd} {σ : L2.St} {ρ : EnvD} {i k : Nat} {xs : List D} (ok : WOk T W) (re : RepE W σ ρ) (hi : gt ρ i = some (.loc k)) (hk : W.mu[k]? = some (.lst xs)) : RepE (W.frz k) σ (ρ.set i (some (.lst xs))) := by
  obtain ⟨v, h1, h2⟩ := re.2 i _ hi
  refine ⟨by rw [List.length_set]; exact re.1, fun j d e => ?_⟩
  rw [gt_eq] at e
  by_cases hj : i = j
  · subst hj
    by_cases hl : i < ρ.length
    · rw [List.getElem?_set_self hl] at e
      cases e
      exact ⟨v, h1, Rep.frz ok h2 hk⟩
    · rw [List.getElem?_eq_none (by simpa using hl)] at e
      cases e
  · rw [List.getElem?_set_ne hj] at e
    obtain ⟨z, e1, e2⟩ := re.2 j d (by rw [gt_eq]; exact e)
    exact ⟨z, e1, Rep.mono Le.frz _ _ e2⟩
theorem sim_frz {i : Nat} {D : Ends} {σ : L2.St} {H : Hp} (h : tOfS T E (wFrz i u) D σ H) : tOfS T E u D σ H := by
  obtain ⟨W, ρ, Δ, Ξ, e1, ok, re, hw, ts, tx⟩ := h
  unfold wFrz at hw
  cases q : gt ρ i with
  | none => rw [q] at hw; exact hw.elim
  | some d =>
    rw [q] at hw
    cases d with
    | loc k =>
      dsimp only at hw
      cases q2 : W.mu[k]? with
      | none => rw [q2] at hw; exact hw.elim
      | some m =>
        rw [q2] at hw
        cases m with
        | lst xs => exact ⟨W.frz k, _, Δ, Ξ, e1, ok.frz, re.frz ok q q2, hw, ts.mono Le.frz, tx.mono Le.frz⟩
        | _ => exact hw.elim
    | _ => exact hw.elim
theorem dss_frz (i : Nat) (h : PSs X sa (tOfS T E u)) : PSs X sa (tOfS T E (wFrz i u)) := h.imp fun _ _ _ h => sim_frz h
theorem ds_frz (i : Nat) (h : PS X st (tOfS T E u)) : PS X st (tOfS T E (wFrz i u)) := h.imp fun _ _ _ h => sim_frz h
/-- while -/
def wWhile (c : DWT) (b : DWS) : DWS := fun ρ mu Δ Ξ => ∃ Wi : Nat → EnvD → MS → Prop, (∃ m, Wi m ρ mu) ∧ ∀ m ρ mu, Wi m ρ mu →
  c ρ mu (fun k mu1 => if k = true then b ρ mu1 ⟨fun ρ' mu' => ∃ m', m' < m ∧ Wi m' ρ' mu', Δ.rt, Δ.nx, fun ρ' mu' => ∃ m', m' < m ∧ Wi m' ρ' mu'⟩ Ξ else Δ.nx ρ mu1) Ξ
theorem ds_while (hp : PassesOwn (model X.prog X.w) X.A X.env X.xe) (hc : PT X c (tOfT T E tt)) (hb : PSs X sa (tOfS T E t)) : PS X (.While c sa [] pos) (tOfS T E (wWhile tt t)) := (ps_while hp hc hb).imp fun D σ H h => by
  obtain ⟨W, ρ, Δ, Ξ, e1, ok, re, ⟨Wi, ⟨m0, w0⟩, turn⟩, ts, tx⟩ := h
  refine ⟨fun m σ' H' => ∃ (W1 : Wd) (ρ1 : EnvD), W1.H = H' ∧ Le W W1 ∧ WOk T W1 ∧ RepE W1 σ' ρ1 ∧ Wi m ρ1 W1.mu, ⟨m0, W, ρ, e1, .refl W, ok, re, w0⟩, ?_⟩
  rintro m σ1 H1 ⟨W1, ρ1, rfl, l1, ok1, re1, w1⟩
  refine ⟨W1, ρ1, _, Ξ, rfl, ok1, re1, turn m ρ1 W1.mu w1, fun W2 k l2 ok2 h2 => ?_, tx.mono l1⟩
  cases k with
  | true =>
    rw [if_pos rfl] at h2 ⊢
    refine ⟨fun σ' H' => ∃ m', m' < m ∧ ∃ (W1 : Wd) (ρ1 : EnvD), W1.H = H' ∧ Le W W1 ∧ WOk T W1 ∧ RepE W1 σ' ρ1 ∧ Wi m' ρ1 W1.mu, fun _ _ h => h, W2, ρ1, _, Ξ, rfl, ok2, re1.mono l2, h2, ?_, tx.mono (l1.trans l2)⟩
    refine ⟨fun W3 σ3 ρ3 l3 ok3 re3 ⟨m', hm, hw⟩ => ⟨m', hm, W3, ρ3, rfl, (l1.trans l2).trans l3, ok3, re3, hw⟩, ts.rt.mono (l1.trans l2), fun W3 σ3 ρ3 l3 ok3 re3 h => ts.nx W3 σ3 ρ3 ((l1.trans l2).trans l3) ok3 re3 h, fun W3 σ3 ρ3 l3 ok3 re3 ⟨m', hm, hw⟩ => ⟨m', hm, W3, ρ3, rfl, (l1.trans l2).trans l3, ok3, re3, hw⟩⟩
  | false =>
    rw [if_neg Bool.false_ne_true] at h2 ⊢
    exact ts.nx W2 _ _ (l1.trans l2) ok2 (re1.mono l2) h2

/-! ### targets -/
abbrev DG := D → EnvD → (EnvD → Prop) → Prop
def SimG (T : List (Addr × Str)) (g : TG) (dg : DG) : Prop := ∀ (W : Wd) d v σ ρ Kp (Q : L2.St → Hp → Prop), WOk T W → Rep W d v → RepE W σ ρ → dg d ρ Kp → (∀ σ' ρ', RepE W σ' ρ' → Kp ρ' → Q σ' W.H) → g v σ W.H Q
def dgName (i : Nat) : DG := fun d ρ Kp => Kp (ρ.set i (some d))
theorem sg_name {i : Nat} : SimG T (gName i) (dgName i) := fun W d v σ ρ Kp Q ok r re h k => k _ _ (re.set r i) h
abbrev DGs := List D → EnvD → (EnvD → Prop) → Prop
def SimGs (T : List (Addr × Str)) (g : TGs) (dg : DGs) : Prop := ∀ (W : Wd) ds vs σ ρ Kp (Q : L2.St → Hp → Prop), WOk T W → RepL W ds vs → RepE W σ ρ → dg ds ρ Kp → (∀ σ' ρ', RepE W σ' ρ' → Kp ρ' → Q σ' W.H) → g vs σ W.H Q
def dgNil : DGs := fun ds ρ Kp => match ds with | [] => Kp ρ | _ => False
def dgCons (g : DG) (gs : DGs) : DGs := fun ds ρ Kp => match ds with | d :: r => g d ρ fun ρ1 => gs r ρ1 Kp | [] => False
theorem sg_nil : SimGs T gNil dgNil := fun W ds vs σ ρ Kp Q ok r re h k => by
  match ds, h with
  | [], h => exact ⟨r.nil_of, k _ _ re h⟩
theorem sg_cons {g : TG} {gs : TGs} {dg : DG} {dgs : DGs} (h1 : SimG T g dg) (h2 : SimGs T gs dgs) : SimGs T (gCons g gs) (dgCons dg dgs) := fun W ds vs σ ρ Kp Q ok r re h k => by
  match ds, h with
  | d :: ds, h =>
    obtain ⟨v, s, rfl, ra, rb⟩ := r.uncons
    exact ⟨v, s, rfl, h1 W d v σ ρ _ _ ok ra re h fun σ1 ρ1 re1 h1 => h2 W ds s σ1 ρ1 Kp Q ok rb re1 h1 k⟩
def dgTup (n : Nat) (gs : DGs) : DG := fun d ρ Kp => match d with | .tup xs => xs.length = n ∧ gs xs ρ Kp | _ => False
theorem sg_tup {n : Nat} {K : PySem.W.Frag} {gs : TGs} {dgs : DGs} (h : SimGs T gs dgs) : SimG T (gTup K n gs) (dgTup n dgs) := fun W d v σ ρ Kp Q ok r re hd k => by
  match d, hd, r with
  | .tup xs, ⟨hl, hd⟩, r =>
    obtain ⟨p, vs, rfl, nn, g1, g2⟩ := r.tup_of
    exact ⟨p, vs, rfl, SqT.of g1, by rw [g2.length, hl], h W xs vs σ ρ Kp Q ok g2 re hd k⟩
/-- targets = e -/
def wAsgG (g : DG) (w : DW) : DWS := fun ρ mu Δ Ξ => w ρ mu (fun d mu1 => g d ρ fun ρ1 => Δ.nx ρ1 mu1) Ξ
theorem ds_asg {g : TG} {dg : DG} (h : PS X st (tAsg (tOf T E wa) g)) (hg : SimG T g dg) : PS X st (tOfS T E (wAsgG dg wa)) := h.imp fun D σ H ⟨W, ρ, Δ, Ξ, e1, ok, re, hw, ts, tx⟩ =>
  ⟨W, ρ, _, Ξ, e1, ok, re, hw, fun W1 d v l1 ok1 r1 h1 => hg W1 d v σ ρ _ _ ok1 r1 (re.mono l1) h1 fun σ' ρ' re' k' => ts.nx W1 _ _ l1 ok1 re' k', tx⟩
/-- o[i] = e, o a list that may change -/
def wSetI (wv wo wi : DW) : DWS := fun ρ mu Δ Ξ => wv ρ mu (fun d mu1 => wo ρ mu1 (fun o mu2 => wi ρ mu2 (fun i mu3 => match o, i with
  | .loc k, .int j => (match mu3[k]? with | some (.lst xs) => (match ixN xs.length j with | some n => Δ.nx ρ (mu3.set k (.lst (xs.set n d))) | none => False) | _ => False)
  | _, _ => False) Ξ) Ξ) Ξ
theorem ds_setI (h : PS X st (tAsg (tOf T E wa) (gSub (tOf T E wb) (tOf T E wc) rSetL))) : PS X st (tOfS T E (wSetI wa wb wc)) := h.imp fun D σ H h => by
  obtain ⟨W, ρ, Δ, Ξ, e1, ok, re, hw, ts, tx⟩ := h
  refine ⟨W, ρ, _, Ξ, e1, ok, re, hw, fun W1 d v l1 ok1 r1 h1 => ⟨W1, ρ, _, Ξ, rfl, ok1, re.mono l1, h1, fun W2 o vo l2 ok2 r2 h2 => ⟨W2, ρ, _, Ξ, rfl, ok2, re.mono (l1.trans l2), h2, fun W3 i vi l3 ok3 r3 h3 => ?_, tx.mono (l1.trans l2)⟩, tx.mono l1⟩, tx⟩
  match o, i, h3, r2, r3 with
  | .loc k, .int j, h3, r2, r3 =>
    obtain ⟨p, g0, rfl⟩ := (Rep.mono l3 _ _ r2).loc_of
    dsimp only at h3
    cases q2 : W3.mu[k]? with
    | none => rw [q2] at h3; exact h3.elim
    | some m =>
      rw [q2] at h3
      cases m with
      | lst xs =>
        dsimp only at h3
        obtain ⟨vs, g1, g2⟩ := ok3.ob k p _ g0 q2
        cases q3 : ixN xs.length j with
        | none => rw [q3] at h3; exact h3.elim
        | some n =>
          rw [q3] at h3
          refine ⟨p, vs, j, n, rfl, r3.int_of, g1, by rw [g2.length]; exact q3, ?_⟩
          have lp := Le.put (o := .lst (vs.set n v)) (m := .lst (xs.set n d)) ok3 g0 q2 (by intro z; cases z)
          refine ts.nx (W3.put k p (.lst (vs.set n v)) (.lst (xs.set n d))) σ ρ (((l1.trans l2).trans l3).trans lp) (ok3.put g0 q2 (by intro z; cases z) (fun ps z => by rw [g1] at z; cases z) (fun φ z => by rw [g1] at z; cases z) ⟨_, upd_same, ?_⟩) (re.mono (((l1.trans l2).trans l3).trans lp)) h3
          exact RepL.mono lp _ _ (RepL.set (Rep.mono (l2.trans l3) _ _ r1) n g2)
      | _ => exact h3.elim
/-- xs.append(e) -/
def wApp (wo we : DW) : DWS := fun ρ mu Δ Ξ => wo ρ mu (fun o mu1 => match o with
  | .loc k => (match mu1[k]? with
    | some (.lst _) => we ρ mu1 (fun d mu2 => match mu2[k]? with | some (.lst xs) => xs.length < 100000 ∧ Δ.nx ρ (mu2.set k (.lst (xs ++ [d]))) | _ => False) Ξ
    | _ => False)
  | _ => False) Ξ
theorem tyV_list {K : PySem.W.Frag} {H : Hp} {p : Addr} {vs : List V} (h : H p = some (.lst vs)) : tyV K "list" (.ref p) H := .inl ⟨rfl, _, SqL.of h⟩
theorem ds_app (h : PS X st (tDrop (tBM X.K "list" rAppend (tOf T E wa) (tCons (tOf T E wb) tNil)))) : PS X st (tOfS T E (wApp wa wb)) := h.imp fun D σ H h => by
  obtain ⟨W, ρ, Δ, Ξ, e1, ok, re, hw, ts, tx⟩ := h
  refine ⟨W, ρ, _, Ξ, e1, ok, re, hw, fun W1 o vo l1 ok1 r1 h1 => ?_, tx⟩
  cases o with
  | loc k =>
    obtain ⟨p, g0, rfl⟩ := r1.loc_of
    dsimp only at h1
    cases q0 : W1.mu[k]? with
    | none => rw [q0] at h1; exact h1.elim
    | some m0 =>
      rw [q0] at h1
      cases m0 with
      | lst xs0 =>
        dsimp only at h1
        obtain ⟨vs0, g10, _⟩ := ok1.ob k p _ g0 q0
        refine ⟨tyV_list g10, W1, ρ, _, Ξ, rfl, ok1, re.mono l1, h1, fun W3 d v l3 ok3 r3 h3 => ?_, tx.mono l1⟩
        dsimp only at h3
        cases q2 : W3.mu[k]? with
        | none => rw [q2] at h3; exact h3.elim
        | some m =>
          rw [q2] at h3
          cases m with
          | lst xs =>
            obtain ⟨hl, h3⟩ := h3
            have g0' := l3.as_get g0
            obtain ⟨vs, g1, g2⟩ := ok3.ob k p _ g0' q2
            refine ⟨p, vs, v, rfl, rfl, g1, by rw [g2.length]; exact Nat.lt_of_lt_of_le hl (by decide), ?_⟩
            have lp := Le.put (o := .lst (vs ++ [v])) (m := .lst (xs ++ [d])) ok3 g0' q2 (by intro z; cases z)
            refine ts.nx (W3.put k p (.lst (vs ++ [v])) (.lst (xs ++ [d]))) σ ρ ((l1.trans l3).trans lp) (ok3.put g0' q2 (by intro z; cases z) (fun ps z => by rw [g1] at z; cases z) (fun φ z => by rw [g1] at z; cases z) ⟨_, upd_same, ?_⟩) (re.mono ((l1.trans l3).trans lp)) h3
            exact RepL.mono lp _ _ (g2.append (.cons r3 .nil))
          | _ => exact h3.elim
      | _ => exact h1.elim
  | _ => exact h1.elim
end
end DL
set_option maxHeartbeats 4000000
/-! DL3: what a loop walks, for, comprehensions, defs. -/
namespace DL
open PySem PySem.Spec PyProof.Rows L2
/-- in every later world the iterator yields these items, in their order -/
def ItRep (T : List (Addr × Str)) (W : Wd) (J : It) (items : List D) : Prop := ∀ (W' : Wd), LeW W W' → WOk T W' → ∀ i : Nat,
  (∀ d, items[i]? = some d → J.go i W'.H ∧ ∀ x H', J.yld i W'.H x H' → ∃ W'' : Wd, W''.H = H' ∧ W''.mu = W'.mu ∧ Le W' W'' ∧ WOk T W'' ∧ Rep W'' d x) ∧ (items.length ≤ i → J.stop i W'.H)
abbrev DWI := EnvD → MS → (List D → MS → Prop) → XD → Prop
def tOfI (T : List (Addr × Str)) (E : XK) (w : DWI) : TI := fun σ H R => ∃ (W : Wd) (ρ : EnvD) (Φ : List D → MS → Prop) (Ξ : XD), W.H = H ∧ WOk T W ∧ RepE W σ ρ ∧ w ρ W.mu Φ Ξ ∧
  (∀ (W' : Wd) J items, Le W W' → WOk T W' → ItRep T W' J items → Φ items W'.mu → R J W'.H) ∧ TrX T W Ξ E
theorem _root_.L2.PI.imp {X : Cx} {tg e : Expr} {t t' : TI} (h : PI X tg e t) (i : ∀ σ H Q, t' σ H Q → t σ H Q) : PI X tg e t' := ⟨fun pins s σ H Q I q => h.run pins s σ H Q I (i _ _ _ q)⟩
section
variable {X : Cx} {T : List (Addr × Str)} {E : XK} {a b c e tg : Expr} {wa wb wc : DW} {pos p : Pos} {n : Nat} {wr : DWA}
def wItL (w : DW) : DWI := fun ρ mu Φ Ξ => w ρ mu (fun d mu1 => match d with | .lst xs => Φ xs mu1 | _ => False) Ξ
def wItT (w : DW) : DWI := fun ρ mu Φ Ξ => w ρ mu (fun d mu1 => match d with | .tup xs => Φ xs mu1 | _ => False) Ξ
theorem it_list {K : PySem.W.Frag} {W : Wd} {p : Addr} {vs : List V} {xs : List D} (nh : ¬ Hid W p) (h : W.H p = some (.lst vs)) (r : RepL W xs vs) : ItRep T W (Itl K p) xs := by
  intro W' l ok i
  have h' : SqL K W'.H p vs := .inl (l.keepRd (.inl h) nh)
  refine ⟨fun d e => ?_, fun hi => ⟨vs, h', by rw [r.length]; exact hi⟩⟩
  obtain ⟨v, e1, e2⟩ := (RepL.monoW l _ _ r).get e
  refine ⟨⟨vs, v, h', e1⟩, fun x H' ⟨q1, q2⟩ => ⟨W', q1.symm, rfl, .refl W', ok, ?_⟩⟩
  have := q2 vs h'
  rw [e1] at this
  cases this
  exact e2
theorem it_tup {K : PySem.W.Frag} {W : Wd} {p : Addr} {vs : List V} {xs : List D} (nh : ¬ Hid W p) (h : W.H p = some (.tup vs)) (r : RepL W xs vs) : ItRep T W (Itt K p) xs := by
  intro W' l ok i
  have h' : SqT K W'.H p vs := .inl (.inl (l.keepTup h nh))
  refine ⟨fun d e => ?_, fun hi => ⟨vs, h', by rw [r.length]; exact hi⟩⟩
  obtain ⟨v, e1, e2⟩ := (RepL.monoW l _ _ r).get e
  refine ⟨⟨vs, v, h', e1⟩, fun x H' ⟨q1, q2⟩ => ⟨W', q1.symm, rfl, .refl W', ok, ?_⟩⟩
  have := q2 vs h'
  rw [e1] at this
  cases this
  exact e2
theorem di_list (h : PE X e (tOf T E wa)) : PI X tg e (tOfI T E (wItL wa)) := (pi_list h).imp fun σ H R h => by
  obtain ⟨W, ρ, Φ, Ξ, e1, ok, re, hw, tq, tx⟩ := h
  refine ⟨W, ρ, _, Ξ, e1, ok, re, hw, fun W1 d v l1 ok1 r1 h1 => ?_, tx⟩
  match d, h1, r1 with
  | .lst xs, h1, r1 =>
    obtain ⟨p, vs, rfl, nh, g1, g2⟩ := r1.lst_of
    exact ⟨p, rfl, ⟨vs, SqL.of g1⟩, tq W1 _ xs l1 ok1 (it_list nh g1 g2) h1⟩
theorem di_tup (h : PE X e (tOf T E wa)) : PI X tg e (tOfI T E (wItT wa)) := (pi_tup h).imp fun σ H R h => by
  obtain ⟨W, ρ, Φ, Ξ, e1, ok, re, hw, tq, tx⟩ := h
  refine ⟨W, ρ, _, Ξ, e1, ok, re, hw, fun W1 d v l1 ok1 r1 h1 => ?_, tx⟩
  match d, h1, r1 with
  | .tup xs, h1, r1 =>
    obtain ⟨p, vs, rfl, nh, g1, g2⟩ := r1.tup_of
    exact ⟨p, rfl, ⟨vs, .inl (.inl g1)⟩, tq W1 _ xs l1 ok1 (it_tup nh g1 g2) h1⟩
def rgD (lo : Int) (n : Nat) : List D := (List.range n).map fun (i : Nat) => D.int (lo + (i : Int))
theorem it_rng {W : Wd} {lo : Int} {n : Nat} : ItRep T W (Itr lo n) (rgD lo n) := by
  intro W' l ok i
  refine ⟨fun d e => ?_, fun hi => by unfold rgD at hi; rw [List.length_map, List.length_range] at hi; exact hi⟩
  unfold rgD at e
  rw [List.getElem?_map] at e
  cases q : (List.range n)[i]? with
  | none => rw [q] at e; cases e
  | some j =>
    rw [q] at e
    cases e
    obtain ⟨hl, ej⟩ := List.getElem?_eq_some_iff.mp q
    rw [List.getElem_range] at ej
    rw [List.length_range] at hl
    subst ej
    exact ⟨hl, fun x H' ⟨q1, q2⟩ => ⟨W', q1.symm, rfl, .refl W', ok, by rw [q2]; exact .int⟩⟩
def wR1 (wr : DWA) : DWI := fun ρ mu Φ Ξ => wr ρ mu (fun ds mu1 => match ds with | [.int j] => -(2 ^ 62) ≤ j ∧ j < 2 ^ 62 ∧ Φ (rgD 0 j.toNat) mu1 | _ => False) Ξ
def wR2 (wr : DWA) : DWI := fun ρ mu Φ Ξ => wr ρ mu (fun ds mu1 => match ds with | [.int i, .int j] => (-(2 ^ 62) ≤ i ∧ i < 2 ^ 62 ∧ -(2 ^ 62) ≤ j ∧ j < 2 ^ 62) ∧ Φ (rgD i (j - i).toNat) mu1 | _ => False) Ξ
theorem RepL.one_of {W : Wd} {d : D} {vs : List V} (h : RepL W [d] vs) : ∃ v, vs = [v] ∧ Rep W d v := by
  obtain ⟨v, r, rfl, h1, h2⟩ := h.uncons
  rw [h2.nil_of]
  exact ⟨v, rfl, h1⟩
theorem RepL.two_of {W : Wd} {d d' : D} {vs : List V} (h : RepL W [d, d'] vs) : ∃ v v', vs = [v, v'] ∧ Rep W d v ∧ Rep W d' v' := by
  obtain ⟨v, r, rfl, h1, h2⟩ := h.uncons
  obtain ⟨v', rfl, h3⟩ := h2.one_of
  exact ⟨v, v', rfl, h1, h3⟩
theorem di_rng1 (hg : Gl X "range") (hm : X.mg "range" = none) (ha : PA X [a] (tOfA T E n wr)) (hs : starEach [a] X.env = [(false, eval a X.env)] := by rfl) : PI X tg (.Call (.Name "range" p) [a] [] pos) (tOfI T E (wR1 wr)) := (pi_range1 hg hm ha hs).imp fun σ H R h => by
  obtain ⟨W, ρ, Φ, Ξ, e1, ok, re, hw, tq, tx⟩ := h
  refine ⟨W, ρ, _, Ξ, e1, ok, re, hw, fun W1 ds vs l1 ok1 r1 hl h1 => ?_, tx⟩
  match ds, h1, r1 with
  | [.int j], ⟨h1, h2, h3⟩, r1 =>
    obtain ⟨v, rfl, r2⟩ := r1.one_of
    exact ⟨j, by rw [r2.int_of], h1, h2, tq W1 _ _ l1 ok1 it_rng h3⟩
theorem di_rng2 (hg : Gl X "range") (hm : X.mg "range" = none) (ha : PA X [a, b] (tOfA T E n wr)) (hs : starEach [a, b] X.env = [(false, eval a X.env), (false, eval b X.env)] := by rfl) (hs2 : starEach [b] X.env = [(false, eval b X.env)] := by rfl) : PI X tg (.Call (.Name "range" p) [a, b] [] pos) (tOfI T E (wR2 wr)) := (pi_range2 hg hm ha hs hs2).imp fun σ H R h => by
  obtain ⟨W, ρ, Φ, Ξ, e1, ok, re, hw, tq, tx⟩ := h
  refine ⟨W, ρ, _, Ξ, e1, ok, re, hw, fun W1 ds vs l1 ok1 r1 hl h1 => ?_, tx⟩
  match ds, h1, r1 with
  | [.int i, .int j], ⟨h1, h3⟩, r1 =>
    obtain ⟨v, v', rfl, r2, r3⟩ := r1.two_of
    exact ⟨i, j, by rw [r2.int_of, r3.int_of], h1, tq W1 _ _ l1 ok1 it_rng h3⟩
/-- enumerate -/
def enD : Nat → List D → List D
  | _, [] => []
  | k, d :: r => .tup [.int (k : Int), d] :: enD (k + 1) r
theorem enD_get : ∀ (xs : List D) (k i : Nat), (enD k xs)[i]? = (xs[i]?).map fun d => D.tup [.int ((k + i : Nat) : Int), d]
  | [], k, i => by simp [enD]
  | d :: r, k, 0 => by simp [enD]
  | d :: r, k, i + 1 => by
    unfold enD
    rw [List.getElem?_cons_succ, List.getElem?_cons_succ, enD_get r (k + 1) i, show k + 1 + i = k + (i + 1) by omega]
theorem enD_length : ∀ (xs : List D) (k : Nat), (enD k xs).length = xs.length
  | [], _ => rfl
  | d :: r, k => by
    unfold enD
    rw [List.length_cons, List.length_cons, enD_length r]
theorem newPair {W' : Wd} {Tp : Addr} {d d' : D} {v v' : V} (ok : WOk T W') (hn : W'.H Tp = none) (r : Rep W' d v) (r' : Rep W' d' v') : ∃ W'' : Wd, W''.H = upd W'.H Tp (.tup [v, v']) ∧ W''.mu = W'.mu ∧ Le W' W'' ∧ WOk T W'' ∧ Rep W'' (.tup [d, d']) (.ref Tp) :=
  ⟨{ W' with H := upd W'.H Tp (.tup [v, v']) }, rfl, rfl, Le.new ok hn, ok.new hn, Rep.newTup ok hn (.cons r (.cons r' .nil))⟩
theorem it_enum {K : PySem.W.Frag} {W : Wd} {p : Addr} {vs : List V} {xs : List D} (nh : ¬ Hid W p) (h : W.H p = some (.lst vs)) (r : RepL W xs vs) : ItRep T W (Ite K p) (enD 0 xs) := by
  intro W' l ok i
  have h' : SqL K W'.H p vs := .inl (l.keepRd (.inl h) nh)
  refine ⟨fun d e => ?_, fun hi => ⟨vs, h', by rw [r.length]; rw [enD_length] at hi; exact hi⟩⟩
  rw [enD_get] at e
  cases q : xs[i]? with
  | none => rw [q] at e; cases e
  | some d0 =>
    rw [q] at e
    cases e
    obtain ⟨v, e1, e2⟩ := (RepL.monoW l _ _ r).get q
    refine ⟨⟨vs, v, h', e1⟩, fun x H' ⟨Tp, y, q1, q2, q3, q4⟩ => ?_⟩
    have := q4 vs h'
    rw [e1] at this
    cases this
    subst q1 q3
    rw [Nat.zero_add]
    exact newPair ok q2 .int e2
def wEn (wr : DWA) : DWI := fun ρ mu Φ Ξ => wr ρ mu (fun ds mu1 => match ds with | [.lst xs] => Φ (enD 0 xs) mu1 | _ => False) Ξ
theorem di_enum {elts : List Expr} {kk : Nat} {tpos : Pos} (hg : Gl X "enumerate") (hm : X.mg "enumerate" = none) (ha : PA X [e] (tOfA T E n wr)) (hs : starEach [e] X.env = [(false, eval e X.env)] := by rfl) :
    PI X (.Tuple elts kk tpos) (.Call (.Name "enumerate" p) [e] [] pos) (tOfI T E (wEn wr)) := (pi_enum hg hm ha hs).imp fun σ H R h => by
  obtain ⟨W, ρ, Φ, Ξ, e1, ok, re, hw, tq, tx⟩ := h
  refine ⟨W, ρ, _, Ξ, e1, ok, re, hw, fun W1 ds vs l1 ok1 r1 hl h1 => ?_, tx⟩
  match ds, h1, r1 with
  | [.lst xs], h1, r1 =>
    obtain ⟨v, rfl, r2⟩ := r1.one_of
    obtain ⟨q, us, rfl, nh, g1, g2⟩ := r2.lst_of
    exact ⟨q, us, rfl, SqL.of g1, tq W1 _ _ l1 ok1 (it_enum nh g1 g2) h1⟩
/-- zip -/
def zpD : List D → List D → List D
  | x :: xs, y :: ys => .tup [x, y] :: zpD xs ys
  | _, _ => []
theorem zpD_get : ∀ (xs ys : List D) (i : Nat), (zpD xs ys)[i]? = match xs[i]?, ys[i]? with | some x, some y => some (D.tup [x, y]) | _, _ => none
  | [], ys, i => by simp [zpD]
  | x :: xs, [], i => by
    simp only [zpD, List.getElem?_nil]
    split <;> simp_all
  | x :: xs, y :: ys, 0 => by simp [zpD]
  | x :: xs, y :: ys, i + 1 => by
    unfold zpD
    rw [List.getElem?_cons_succ, List.getElem?_cons_succ, List.getElem?_cons_succ]
    exact zpD_get xs ys i
theorem zpD_length : ∀ (xs ys : List D), (zpD xs ys).length = min xs.length ys.length
  | [], ys => by simp [zpD]
  | x :: xs, [] => by simp [zpD]
  | x :: xs, y :: ys => by
    simp only [zpD, List.length_cons, zpD_length xs ys]
    omega
def wZp (wr : DWA) : DWI := fun ρ mu Φ Ξ => wr ρ mu (fun ds mu1 => match ds with | [.lst xs, .lst ys] => Φ (zpD xs ys) mu1 | [.tup xs, .tup ys] => Φ (zpD xs ys) mu1 | _ => False) Ξ
theorem it_zipL {K : PySem.W.Frag} {W : Wd} {p q : Addr} {vs us : List V} {xs ys : List D} (nh : ¬ Hid W p) (h : W.H p = some (.lst vs)) (r : RepL W xs vs) (nh2 : ¬ Hid W q) (h2 : W.H q = some (.lst us)) (r2 : RepL W ys us) : ItRep T W (Itz K p q) (zpD xs ys) := by
  intro W' l ok i
  have h' : SqL K W'.H p vs := .inl (l.keepRd (.inl h) nh)
  have h2' : SqL K W'.H q us := .inl (l.keepRd (.inl h2) nh2)
  refine ⟨fun d e => ?_, fun hi => ⟨vs, us, h', h2', by rw [r.length, r2.length]; rw [zpD_length] at hi; omega⟩⟩
  rw [zpD_get] at e
  cases q1 : xs[i]? with
  | none => rw [q1] at e; cases e
  | some d0 =>
    cases q2 : ys[i]? with
    | none => rw [q1, q2] at e; cases e
    | some d1 =>
      rw [q1, q2] at e
      cases e
      obtain ⟨v, e1, e2⟩ := (RepL.monoW l _ _ r).get q1
      obtain ⟨u, e3, e4⟩ := (RepL.monoW l _ _ r2).get q2
      refine ⟨⟨vs, us, v, u, h', h2', e1, e3⟩, fun x H' ⟨Tp, y, z, z1, z2, z3, z4, z5⟩ => ?_⟩
      have a1 := z4 vs h'
      rw [e1] at a1
      cases a1
      have a2 := z5 us h2'
      rw [e3] at a2
      cases a2
      subst z1 z3
      exact newPair ok z2 e2 e4
theorem it_zipT {K : PySem.W.Frag} {W : Wd} {p q : Addr} {vs us : List V} {xs ys : List D} (nh : ¬ Hid W p) (h : W.H p = some (.tup vs)) (r : RepL W xs vs) (nh2 : ¬ Hid W q) (h2 : W.H q = some (.tup us)) (r2 : RepL W ys us) : ItRep T W (RZ.ItzT K p q) (zpD xs ys) := by
  intro W' l ok i
  have h' : SqT K W'.H p vs := .inl (.inl (l.keepTup h nh))
  have h2' : SqT K W'.H q us := .inl (.inl (l.keepTup h2 nh2))
  refine ⟨fun d e => ?_, fun hi => ⟨vs, us, h', h2', by rw [r.length, r2.length]; rw [zpD_length] at hi; omega⟩⟩
  rw [zpD_get] at e
  cases q1 : xs[i]? with
  | none => rw [q1] at e; cases e
  | some d0 =>
    cases q2 : ys[i]? with
    | none => rw [q1, q2] at e; cases e
    | some d1 =>
      rw [q1, q2] at e
      cases e
      obtain ⟨v, e1, e2⟩ := (RepL.monoW l _ _ r).get q1
      obtain ⟨u, e3, e4⟩ := (RepL.monoW l _ _ r2).get q2
      refine ⟨⟨vs, us, v, u, h', h2', e1, e3⟩, fun x H' ⟨Tp, y, z, z1, z2, z3, z4, z5⟩ => ?_⟩
      have a1 := z4 vs h'
      rw [e1] at a1
      cases a1
      have a2 := z5 us h2'
      rw [e3] at a2
      cases a2
      subst z1 z3
      exact newPair ok z2 e2 e4
theorem di_zip {e2 : Expr} {elts : List Expr} {kk : Nat} {tpos : Pos} (hg : Gl X "zip") (hm : X.mg "zip" = none) (ha : PA X [e, e2] (tOfA T E n wr))
    (hs : starEach [e, e2] X.env = (false, eval e X.env) :: starEach [e2] X.env := by rfl) (hpl : (backTo pos (starEach [e2] X.env)).any (·.1) = false := by rfl) :
    PI X (.Tuple elts kk tpos) (.Call (.Name "zip" p) [e, e2] [] pos) (tOfI T E (wZp wr)) := (RZ.pi_zipA hg hm ha hs hpl).imp fun σ H R h => by
  obtain ⟨W, ρ, Φ, Ξ, e1, ok, re, hw, tq, tx⟩ := h
  refine ⟨W, ρ, _, Ξ, e1, ok, re, hw, fun W1 ds vs l1 ok1 r1 hl h1 => ?_, tx⟩
  match ds, h1, r1 with
  | [.lst xs, .lst ys], h1, r1 =>
    obtain ⟨v, v', rfl, r2, r3⟩ := r1.two_of
    obtain ⟨q, us, rfl, nh, g1, g2⟩ := r2.lst_of
    obtain ⟨q', us', rfl, nh', g1', g2'⟩ := r3.lst_of
    exact ⟨q, q', us, us', rfl, .inl ⟨SqL.of g1, SqL.of g1', tq W1 _ _ l1 ok1 (it_zipL nh g1 g2 nh' g1' g2') h1⟩⟩
  | [.tup xs, .tup ys], h1, r1 =>
    obtain ⟨v, v', rfl, r2, r3⟩ := r1.two_of
    obtain ⟨q, us, rfl, nh, g1, g2⟩ := r2.tup_of
    obtain ⟨q', us', rfl, nh', g1', g2'⟩ := r3.tup_of
    exact ⟨q, q', us, us', rfl, .inr ⟨.inl (.inl g1), .inl (.inl g1'), tq W1 _ _ l1 ok1 (it_zipT nh g1 g2 nh' g1' g2') h1⟩⟩
end

/-! ### for -/
def wForGo (dg : DG) (b : DWS) : List D → EnvD → MS → DEnds → XD → Prop
  | [], ρ, mu, Δ, _ => Δ.nx ρ mu
  | x :: xs, ρ, mu, Δ, Ξ => dg x ρ fun ρ1 => b ρ1 mu ⟨fun ρ2 mu2 => wForGo dg b xs ρ2 mu2 Δ Ξ, Δ.rt, Δ.nx, fun ρ2 mu2 => wForGo dg b xs ρ2 mu2 Δ Ξ⟩ Ξ
def wFor (wi : DWI) (dg : DG) (b : DWS) : DWS := fun ρ mu Δ Ξ => wi ρ mu (fun items mu1 => wForGo dg b items ρ mu1 Δ Ξ) Ξ
section
variable {X : Cx} {T : List (Addr × Str)} {E : XK} {iter tg : Expr} {body : List Stmt} {pos : Pos} {wi : DWI} {g : TG} {dg : DG} {b : DWS}
theorem ds_for (hp : PassesOwn (model X.prog X.w) X.A X.env X.xe) (hc : X.calm = true) (hi : PI X tg iter (tOfI T E wi)) (hg : PG X tg g) (sg : SimG T g dg) (hb : PSs X body (tOfS T E b))
    (hs : ∀ x, foldedSetIterable iter X.env x = pure x := by intro _; rfl) : PS X (.For tg iter body [] pos) (tOfS T E (wFor wi dg b)) := (ps_for hp hc hi hg hb hs).imp fun D σ H h => by
  obtain ⟨W, ρ, Δ, Ξ, e1, ok, re, hw, ts, tx⟩ := h
  refine ⟨W, ρ, _, Ξ, e1, ok, re, hw, fun W1 J items l1 ok1 it h1 => ?_, tx⟩
  refine ⟨fun i m σ' H' => m = items.length - i ∧ i ≤ items.length ∧ ∃ (W2 : Wd) (ρ2 : EnvD), W2.H = H' ∧ Le W1 W2 ∧ WOk T W2 ∧ RepE W2 σ' ρ2 ∧ wForGo dg b (items.drop i) ρ2 W2.mu Δ Ξ, ⟨items.length, by simp, Nat.zero_le _, W1, ρ, rfl, .refl W1, ok1, re.mono l1, by simpa using h1⟩, ?_⟩
  rintro i m σ2 H2 ⟨rfl, hi, W2, ρ2, rfl, l2, ok2, re2, h2⟩
  by_cases hlt : i < items.length
  · have ed : items.drop i = items[i] :: items.drop (i + 1) := List.drop_eq_getElem_cons hlt
    rw [ed] at h2
    obtain ⟨go, yl⟩ := (it W2 l2.w ok2 i).1 items[i] (List.getElem?_eq_getElem hlt)
    refine .inr ⟨go, fun σ' H' => ∃ (W3 : Wd) (ρ3 : EnvD), W3.H = H' ∧ Le W1 W3 ∧ WOk T W3 ∧ RepE W3 σ' ρ3 ∧ wForGo dg b (items.drop (i + 1)) ρ3 W3.mu Δ Ξ, fun σ' H' h' => ⟨items.length - (i + 1), by omega, rfl, hlt, h'⟩, fun x H' y => ?_⟩
    obtain ⟨W3, rfl, em, l3, ok3, r3⟩ := yl x H' y
    have h2 : dg items[i] ρ2 fun ρ1 => b ρ1 W2.mu ⟨fun ρ2 mu2 => wForGo dg b (items.drop (i + 1)) ρ2 mu2 Δ Ξ, Δ.rt, Δ.nx, fun ρ2 mu2 => wForGo dg b (items.drop (i + 1)) ρ2 mu2 Δ Ξ⟩ Ξ := h2
    rw [← em] at h2
    refine sg W3 items[i] x σ2 ρ2 _ _ ok3 r3 (re2.mono l3) h2 fun σ4 ρ4 re4 h4 => ?_
    refine ⟨W3, ρ4, _, Ξ, rfl, ok3, re4, h4, ?_, tx.mono ((l1.trans l2).trans l3)⟩
    refine ⟨fun W5 σ5 ρ5 l5 ok5 re5 h5 => ⟨W5, ρ5, rfl, (l2.trans l3).trans l5, ok5, re5, h5⟩, ts.rt.mono ((l1.trans l2).trans l3), fun W5 σ5 ρ5 l5 ok5 re5 h5 => ts.nx W5 σ5 ρ5 (((l1.trans l2).trans l3).trans l5) ok5 re5 h5, fun W5 σ5 ρ5 l5 ok5 re5 h5 => ⟨W5, ρ5, rfl, (l2.trans l3).trans l5, ok5, re5, h5⟩⟩
  · have e : i = items.length := by omega
    subst e
    refine .inl ⟨(it W2 l2.w ok2 _).2 (Nat.le_refl _), ?_⟩
    rw [List.drop_length] at h2
    exact ts.nx W2 σ2 ρ2 (l1.trans l2) ok2 re2 h2
end

/-! ### comprehensions -/
def wLcGo (dg : DG) (tt : DWT) (w : DW) (ρ : EnvD) (vs : List Nat) : List D → List D → MS → (List D → MS → Prop) → Prop
  | acc, [], mu, Φ => Φ acc mu
  | acc, x :: xs, mu, Φ => dg x (wipeD ρ vs) fun ρ1 => tt ρ1 mu (fun k mu1 => if k = true then w ρ1 mu1 (fun y mu2 => wLcGo dg tt w ρ vs (acc ++ [y]) xs mu2 Φ) X0 else wLcGo dg tt w ρ vs acc xs mu1 Φ) X0
def wLc (wi : DWI) (dg : DG) (tt : DWT) (w : DW) (vs : List Nat) : DW := fun ρ mu Φ Ξ => wi ρ mu (fun items mu1 => items.length ≤ 100000 ∧ wLcGo dg tt w ρ vs [] items mu1 fun ds mu2 => Φ (.lst ds) mu2) Ξ
def wLcM (wi : DWI) (dg : DG) (tt : DWT) (w : DW) (vs : List Nat) : DW := fun ρ mu Φ Ξ => wi ρ mu (fun items mu1 => items.length ≤ 100000 ∧ wLcGo dg tt w ρ vs [] items mu1 fun ds mu2 => Φ (.loc mu2.length) (mu2 ++ [.lst ds])) Ξ
def wYes : DWT := fun _ mu Φ _ => Φ true mu
section
variable {X : Cx} {T : List (Addr × Str)} {E : XK}
theorem dts_nil : PTs X [] (tOfT T E wYes) := ⟨fun pins s σ H Q I ⟨W, ρ, Φ, Ξ, e1, ok, re, hw, tq, tx⟩ => pts_nil.run pins s σ H Q I (by subst e1; exact tq W _ (.refl W) ok hw)⟩
theorem dts_one {c : Expr} {tt : DWT} (h : PT X c (tOfT T E tt)) : PTs X [c] (tOfT T E tt) := pts_one h
/-- one name, or a pair of names, of the block's own -/
structure LcG (T : List (Addr × Str)) (g : TG) (dg : DG) (vs : List Nat) : Prop where
  run : ∀ (W : Wd) d v σ ρ Kp (Q : L2.St → Hp → Prop), WOk T W → Rep W d v → RepE W (wipe σ vs) (wipeD ρ vs) → dg d (wipeD ρ vs) Kp → (∀ σ' ρ', wipe σ' vs = wipe σ vs → RepE W σ' ρ' → Kp ρ' → Q σ' W.H) → g v (wipe σ vs) W.H Q
theorem wipe_idem {σ : L2.St} {vs : List Nat} : wipe (wipe σ vs) vs = wipe σ vs := by
  refine List.ext_getElem? fun i => ?_
  by_cases h : i ∈ vs
  · have z : ∀ τ : L2.St, ∀ vs : List Nat, i ∈ vs → (wipe τ vs)[i]? = if i < τ.length then some none else none := fun τ vs => by
      induction vs with
      | nil => intro h; cases h
      | cons v r ih =>
        intro h
        unfold L2.wipe
        by_cases e : v = i
        · subst e
          by_cases hl : v < (wipe τ r).length
          · rw [List.getElem?_set_self hl, if_pos (by rw [wipe_length] at hl; exact hl)]
          · rw [List.getElem?_eq_none (by rw [List.length_set]; omega), if_neg (by rw [wipe_length] at hl; exact hl)]
        · rw [List.getElem?_set_ne e]
          exact ih ((List.mem_cons.mp h).resolve_left fun q => e q.symm)
    rw [z _ _ h, z _ _ h, wipe_length]
  · rw [wipe_out h]
theorem wipe_set {σ : L2.St} {vs : List Nat} {i : Nat} {x : Option V} (h : i ∈ vs) : wipe (σ.set i x) vs = wipe σ vs := by
  refine List.ext_getElem? fun j => ?_
  have z : ∀ τ : L2.St, ∀ vs : List Nat, j ∈ vs → (wipe τ vs)[j]? = if j < τ.length then some none else none := fun τ vs => by
    induction vs with
    | nil => intro h; cases h
    | cons v r ih =>
      intro h
      unfold L2.wipe
      by_cases e : v = j
      · subst e
        by_cases hl : v < (wipe τ r).length
        · rw [List.getElem?_set_self hl, if_pos (by rw [wipe_length] at hl; exact hl)]
        · rw [List.getElem?_eq_none (by rw [List.length_set]; omega), if_neg (by rw [wipe_length] at hl; exact hl)]
      · rw [List.getElem?_set_ne e]
        exact ih ((List.mem_cons.mp h).resolve_left fun q => e q.symm)
  by_cases hj : j ∈ vs
  · rw [z _ _ hj, z _ _ hj, List.length_set]
  · rw [wipe_out hj, wipe_out hj, List.getElem?_set_ne (fun e => hj (by rw [← e]; exact h))]
theorem lcg_name {i : Nat} {vs : List Nat} (h : i ∈ vs) : LcG T (gName i) (dgName i) vs := ⟨fun W d v σ ρ Kp Q ok r re hd k => k _ _ (by rw [wipe_set h, wipe_idem]) (re.set r i) hd⟩
theorem lcg_pair {i j : Nat} {vs : List Nat} {K : PySem.W.Frag} (h : i ∈ vs) (h2 : j ∈ vs) : LcG T (gTup K 2 (gCons (gName i) (gCons (gName j) gNil))) (dgTup 2 (dgCons (dgName i) (dgCons (dgName j) dgNil))) vs := ⟨fun W d v σ ρ Kp Q ok r re hd k => by
  match d, hd, r with
  | .tup [x, y], ⟨hl, hd⟩, r =>
    obtain ⟨p, us, rfl, nn, g1, g2⟩ := r.tup_of
    obtain ⟨u, u', rfl, r1, r2⟩ := g2.two_of
    exact ⟨p, _, rfl, SqT.of g1, rfl, u, _, rfl, u', _, rfl, rfl, k _ _ (by rw [wipe_set h2, wipe_set h, wipe_idem]) ((re.set r1 i).set r2 j) hd⟩⟩
/-- within a comprehension the new list is nobody's -/
theorem sim_lcAny {wi : DWI} {g : TG} {dg : DG} {tt : DWT} {w : DW} {vs : List Nat} {σ : L2.St} {Q : VK} {W1 : Wd} {J : It} {items : List D} {ρ : EnvD} {Ψ : List D → MS → Prop} (hg : LcG T g dg vs) (ok1 : WOk T W1) (re1 : RepE W1 σ ρ) (it : ItRep T W1 J items) (hlen : items.length ≤ 100000)
    (h1 : wLcGo dg tt w ρ vs [] items W1.mu Ψ) {Dl : Addr} (hD : W1.H Dl = none)
    (fin : ∀ (W2 : Wd) acc va, LeW W1 W2 → W2.ex = Dl :: W1.ex → (∀ a, a ∈ W1.ex → (∀ ps, W1.H a ≠ some (.tbl ps)) → W2.H a = W1.H a) → WOk T W2 → W2.H Dl = some (.lst va) → RepL W2 acc va → Ψ acc W2.mu → Q (.ref Dl) W2.H) :
    ∃ W : Nat → Nat → Hp → Prop, (∃ m, W 0 m (upd W1.H Dl (.lst []))) ∧ ∀ i m H, W i m H →
      (J.stop i H ∧ Q (.ref Dl) H) ∨ (J.go i H ∧ ∃ Nx : Hp → Prop, (∀ H', Nx H' → ∃ m', m' < m ∧ W (i + 1) m' H') ∧ ∀ x H', J.yld i H x H' → g x (wipe σ vs) H' fun σ2 H2 => wipe σ2 vs = wipe σ vs ∧ tOfT T E0 tt σ2 H2 fun b H3 =>
        if b = true then tOf T E0 w σ2 H3 fun y H4 => ∃ acc, H4 Dl = some (.lst acc) ∧ acc.length < sizeLine ∧ Nx (upd H4 Dl (.lst (acc ++ [y]))) else Nx H3) := by
  have nex : Dl ∉ W1.as ++ W1.ex := fun q => by
    obtain ⟨o, e, _⟩ := ok1.tr Dl q
    rw [hD] at e
    cases e
  let P : Nat → Hp → Prop := fun i H' => ∃ (W2 : Wd) (acc : List D) (va : List V), W2.H = H' ∧ LeW W1 W2 ∧ W2.ex = Dl :: W1.ex ∧ (∀ a, a ∈ W1.ex → (∀ ps, W1.H a ≠ some (.tbl ps)) → W2.H a = W1.H a) ∧ WOk T W2 ∧ W2.H Dl = some (.lst va) ∧ RepL W2 acc va ∧ acc.length ≤ i ∧ wLcGo dg tt w ρ vs acc (items.drop i) W2.mu Ψ
  refine ⟨fun i m H' => m = items.length - i ∧ i ≤ items.length ∧ P i H', ⟨items.length, by simp, Nat.zero_le _, ?_⟩, ?_⟩
  · refine ⟨{ as := W1.as, mu := W1.mu, ex := Dl :: W1.ex, H := upd W1.H Dl (.lst []) }, [], [], rfl, ⟨⟨[], by simp⟩, fun a o h n t => ?_, fun a o h n t q => ?_⟩, rfl, fun a ha _ => ?_, ?_, upd_same, .nil, Nat.le_refl _, by simpa using h1⟩
    · show upd W1.H Dl _ a = _
      rw [upd_ne (ne_of_none h hD)]
      exact h
    · rcases q with q | q
      · rcases List.mem_cons.mp q with q | q
        · rw [q, hD] at h
          cases h
        · exact n (.inl q)
      · exact n (.inr q)
    · show upd W1.H Dl _ a = _
      rw [upd_ne (fun e => nex (by rw [← e]; exact List.mem_append_right _ ha))]
    · have lw : LeW W1 { as := W1.as, mu := W1.mu, ex := Dl :: W1.ex, H := upd W1.H Dl (.lst []) } := by
        refine ⟨⟨[], by simp⟩, fun a o h n t => ?_, fun a o h n t q => ?_⟩
        · show upd W1.H Dl _ a = _
          rw [upd_ne (ne_of_none h hD)]
          exact h
        · rcases q with q | q
          · rcases List.mem_cons.mp q with q | q
            · rw [q, hD] at h
              cases h
            · exact n (.inl q)
          · exact n (.inr q)
      have st : ∀ a u, W1.H a = some u → upd W1.H Dl (.lst []) a = some u := fun a u e => by rw [upd_ne (ne_of_none e hD)]; exact e
      refine ⟨ok1.len, ok1.nd, fun a ha => ?_, fun a ha q => ?_, fun k a m h1 h2 => (ok1.ob k a m h1 h2).monoW lw (st a), ok1.tabs.ext st⟩
      · have ha : a ∈ W1.as ++ (Dl :: W1.ex) := ha
        by_cases e : a = Dl
        · exact ⟨_, by rw [e]; exact upd_same, fun ps z => by cases z⟩
        · have : a ∈ W1.as ++ W1.ex := by
            simp only [List.mem_append, List.mem_cons] at ha ⊢
            rcases ha with z | z | z
            · exact .inl z
            · exact absurd z e
            · exact .inr z
          obtain ⟨u, q, en⟩ := ok1.tr a this
          exact ⟨u, st a u q, en⟩
      · have ha : a ∈ Dl :: W1.ex := ha
        rcases List.mem_cons.mp ha with z | z
        · rw [z] at q
          exact nex (List.mem_append_left _ q)
        · exact ok1.dj a z q
  rintro i m H ⟨rfl, hi, W2, acc, va, rfl, l2, ex2, exk2, ok2, hD2, ra, hacc, h2⟩
  by_cases hlt : i < items.length
  · have ed : items.drop i = items[i] :: items.drop (i + 1) := List.drop_eq_getElem_cons hlt
    rw [ed] at h2
    obtain ⟨go, yl⟩ := (it W2 l2 ok2 i).1 items[i] (List.getElem?_eq_getElem hlt)
    refine .inr ⟨go, P (i + 1), fun H' h' => ⟨items.length - (i + 1), by omega, rfl, hlt, h'⟩, fun x H' y => ?_⟩
    obtain ⟨W3, rfl, em, l3, ok3, r3⟩ := yl x H' y
    have inex : Dl ∈ W2.ex := by rw [ex2]; exact List.mem_cons_self
    have nt : ∀ ps, (some (HO.lst va) : Option HO) ≠ some (.tbl ps) := fun ps z => by cases z
    have h2 : dg items[i] (wipeD ρ vs) fun ρ1 => tt ρ1 W2.mu (fun k mu1 => if k = true then w ρ1 mu1 (fun y mu2 => wLcGo dg tt w ρ vs (acc ++ [y]) (items.drop (i + 1)) mu2 Ψ) X0 else wLcGo dg tt w ρ vs acc (items.drop (i + 1)) mu1 Ψ) X0 := h2
    rw [← em] at h2
    have l13 : LeW W1 W3 := l2.trans l3.w
    refine hg.run W3 items[i] x σ ρ _ _ ok3 r3 ((re1.monoW l13).wipe vs) h2 fun σ4 ρ4 ew re4 h4 => ⟨ew, ?_⟩
    refine ⟨W3, ρ4, _, X0, rfl, ok3, re4, h4, fun W4 k l4 ok4 h5 => ?_, TrX.none⟩
    have l14 : LeW W1 W4 := l13.trans l4.w
    have l24 : Le W2 W4 := l3.trans l4
    have ex4 : W4.ex = Dl :: W1.ex := by rw [l24.ex, ex2]
    have exk4 : ∀ a, a ∈ W1.ex → (∀ ps, W1.H a ≠ some (.tbl ps)) → W4.H a = W1.H a := fun a ha ht => by rw [l24.exk a (by rw [ex2]; exact List.mem_cons_of_mem _ ha) (by rw [exk2 a ha ht]; exact ht), exk2 a ha ht]
    cases k with
    | false =>
      rw [if_neg Bool.false_ne_true] at h5
      show P (i + 1) W4.H
      exact ⟨W4, acc, va, rfl, l14, ex4, exk4, ok4, by rw [l24.exk _ inex (by rw [hD2]; exact nt)]; exact hD2, RepL.mono l24 _ _ ra, by omega, h5⟩
    | true =>
      rw [if_pos rfl] at h5
      show tOf T E0 w σ4 W4.H _
      refine ⟨W4, ρ4, _, X0, rfl, ok4, re4.mono l4, h5, fun W5 d y l5 ok5 r5 h6 => ?_, TrX.none⟩
      have l25 : Le W2 W5 := l24.trans l5
      have ex5 : W5.ex = Dl :: W1.ex := by rw [l25.ex, ex2]
      have hD5 : W5.H Dl = some (.lst va) := by rw [l25.exk _ inex (by rw [hD2]; exact nt)]; exact hD2
      have nas : Dl ∉ W5.as := ok5.dj Dl (by rw [ex5]; exact List.mem_cons_self)
      have lw : LeW W5 { W5 with H := upd W5.H Dl (.lst (va ++ [y])) } := ⟨⟨[], by simp⟩, fun a o h n t => by
        show upd W5.H Dl _ a = _
        rw [upd_ne (fun e => n (.inl (by rw [e, ex5]; exact List.mem_cons_self)))]
        exact h, fun a o h n t q => n q⟩
      have ra5 := RepL.mono l25 _ _ ra
      refine ⟨va, hD5, by rw [ra.length]; exact Nat.lt_of_le_of_lt (show acc.length ≤ 100000 by omega) (by decide), { W5 with H := upd W5.H Dl (.lst (va ++ [y])) }, acc ++ [d], va ++ [y], rfl, (l14.trans l5.w).trans lw, ex5, fun a ha ht => ?_, ?_, upd_same, RepL.monoW lw _ _ (ra5.append (.cons r5 .nil)), by rw [List.length_append, List.length_singleton]; omega, h6⟩
      · show upd W5.H Dl _ a = _
        rw [upd_ne (fun e => nex (by rw [← e]; exact List.mem_append_right _ ha)), l25.exk a (by rw [ex2]; exact List.mem_cons_of_mem _ ha) (by rw [exk2 a ha ht]; exact ht), exk2 a ha ht]
      · refine ⟨ok5.len, ok5.nd, fun a ha => ?_, ok5.dj, fun k a m g1 g2 => (ok5.ob k a m g1 g2).monoW lw fun u hu => ?_, fun q hq => ?_⟩
        · by_cases e : a = Dl
          · exact ⟨_, by rw [e]; exact upd_same, fun ps z => by cases z⟩
          · obtain ⟨u, z, en⟩ := ok5.tr a ha
            exact ⟨u, by show upd W5.H Dl _ a = _; rw [upd_ne e]; exact z, en⟩
        · show upd W5.H Dl _ a = _
          rw [upd_ne (fun e => nas (by rw [← e]; exact List.mem_of_getElem? g1))]
          exact hu
        · obtain ⟨ps, z1, z2, z3⟩ := ok5.tabs q hq
          refine ⟨ps, by show upd W5.H Dl _ q.1 = _; rw [upd_ne (fun e => by rw [e, hD5] at z1; cases z1)]; exact z1, z2, fun pos cv hc => ?_⟩
          obtain ⟨c, e1, e2⟩ := z3 pos cv hc
          refine ⟨c, e1, ?_⟩
          show upd W5.H Dl _ c = _
          rw [upd_ne (fun e => by rw [e, hD5] at e2; unfold LamX.CodeO at e2; cases e2)]
          exact e2
  · have e : i = items.length := by omega
    subst e
    rw [List.drop_length] at h2
    exact .inl ⟨(it W2 l2 ok2 _).2 (Nat.le_refl _), fin W2 acc va l2 ex2 exk2 ok2 hD2 ra h2⟩
theorem unhide {W1 W2 : Wd} {Dl : Addr} (hD : W1.H Dl = none) (l2 : LeW W1 W2) (ex2 : W2.ex = Dl :: W1.ex) (exk2 : ∀ a, a ∈ W1.ex → (∀ ps, W1.H a ≠ some (.tbl ps)) → W2.H a = W1.H a) (ok1 : WOk T W1) (ok2 : WOk T W2) :
    Le W1 { W2 with ex := W1.ex } ∧ WOk T { W2 with ex := W1.ex } ∧ LeW W2 { W2 with ex := W1.ex } ∧ ¬ Hid { W2 with ex := W1.ex } Dl ∧ Dl ∉ W2.as := by
  have hs : ∀ a, Hid { W2 with ex := W1.ex } a → Hid W2 a := fun a q => by
    rcases q with q | q
    · exact .inl (by rw [ex2]; exact List.mem_cons_of_mem _ q)
    · exact .inr q
  have lw : LeW W2 { W2 with ex := W1.ex } := ⟨⟨[], by simp⟩, fun a o h n t => h, fun a o h n t q => n (hs a q)⟩
  have nas : Dl ∉ W2.as := ok2.dj Dl (by rw [ex2]; exact List.mem_cons_self)
  refine ⟨⟨l2.pre, rfl, exk2, l2.keep, fun a o h n t q => l2.dead a o h n t (hs a q)⟩, ⟨ok2.len, ok2.nd, fun a ha => ok2.tr a ?_, fun a ha => ok2.dj a (by rw [ex2]; exact List.mem_cons_of_mem _ ha), fun k a m g1 g2 => (ok2.ob k a m g1 g2).monoW lw fun u hu => hu, ok2.tabs⟩, lw, fun q => ?_, nas⟩
  · have ha : a ∈ W2.as ++ W1.ex := ha
    rw [List.mem_append] at ha ⊢
    exact ha.imp id fun z => by rw [ex2]; exact List.mem_cons_of_mem _ z
  · rcases q with q | ⟨k, o, q, _⟩
    · obtain ⟨o, e, _⟩ := ok1.tr Dl (List.mem_append_right _ q)
      rw [hD] at e
      cases e
    · exact nas (List.mem_of_getElem? q)
theorem sim_lc {wi : DWI} {g : TG} {dg : DG} {tt : DWT} {w : DW} {vs : List Nat} (hg : LcG T g dg vs) {σ : L2.St} {H : Hp} {Q : VK} (h : tOf T E (wLc wi dg tt w vs) σ H Q) : tLc (tOfI T E wi) g (tOfT T E0 tt) (tOf T E0 w) vs σ H Q := by
  obtain ⟨W, ρ, Φ, Ξ, e1, ok, re, hw, tq, tx⟩ := h
  refine ⟨W, ρ, _, Ξ, e1, ok, re, hw, fun W1 J items l1 ok1 it ⟨hl, h1⟩ => fun Dl hD => sim_lcAny (wi := wi) hg ok1 (re.mono l1) it hl h1 hD fun W2 acc va l2 ex2 exk2 ok2 hD2 ra h2 => ?_, tx⟩
  obtain ⟨a1, a2, a3, a4, a5⟩ := unhide hD l2 ex2 exk2 ok1 ok2
  exact tq { W2 with ex := W1.ex } _ _ (l1.trans a1) a2 (Rep.lst a4 hD2 (RepL.monoW a3 _ _ ra)) h2
theorem sim_lcM {wi : DWI} {g : TG} {dg : DG} {tt : DWT} {w : DW} {vs : List Nat} (hg : LcG T g dg vs) {σ : L2.St} {H : Hp} {Q : VK} (h : tOf T E (wLcM wi dg tt w vs) σ H Q) : tLc (tOfI T E wi) g (tOfT T E0 tt) (tOf T E0 w) vs σ H Q := by
  obtain ⟨W, ρ, Φ, Ξ, e1, ok, re, hw, tq, tx⟩ := h
  refine ⟨W, ρ, _, Ξ, e1, ok, re, hw, fun W1 J items l1 ok1 it ⟨hl, h1⟩ => fun Dl hD => sim_lcAny (wi := wi) hg ok1 (re.mono l1) it hl h1 hD fun W2 acc va l2 ex2 exk2 ok2 hD2 ra h2 => ?_, tx⟩
  obtain ⟨a1, a2, a3, a4, a5⟩ := unhide hD l2 ex2 exk2 ok1 ok2
  -- the list becomes a mutable object of the world
  let Wf : Wd := { W2 with ex := W1.ex }
  have hid : ∀ a, Hid { as := Wf.as ++ [Dl], mu := Wf.mu ++ [MO.lst acc], ex := Wf.ex, H := Wf.H } a → a = Dl ∨ Hid Wf a := fun a q => by
    rcases q with q | ⟨k, z, q1, q2, q3⟩
    · exact .inr (.inl q)
    · have q1 : (Wf.as ++ [Dl])[k]? = some a := q1
      have q2 : (Wf.mu ++ [MO.lst acc])[k]? = some z := q2
      by_cases hk : k < Wf.as.length
      · rw [List.getElem?_append_left hk] at q1
        rw [List.getElem?_append_left (a2.len ▸ hk)] at q2
        exact .inr (.inr ⟨k, z, q1, q2, q3⟩)
      · rw [List.getElem?_append_right (by omega)] at q1
        exact .inl (by simpa using List.mem_of_getElem? q1)
  have lf : Le W1 { as := Wf.as ++ [Dl], mu := Wf.mu ++ [MO.lst acc], ex := Wf.ex, H := Wf.H } := by
    refine ⟨?_, rfl, exk2, l2.keep, fun a o h n t q => ?_⟩
    · obtain ⟨m, e⟩ := l2.pre
      exact ⟨m ++ [Dl], by show W2.as ++ [Dl] = _; rw [e, List.append_assoc]⟩
    · rcases hid a q with q | q
      · rw [q, hD] at h
        cases h
      · exact a1.dead a o h n t q
  have lw : ∀ d v, Rep W2 d v → (∀ b, v = .ref b → b ≠ Dl) → True := fun _ _ _ _ => trivial
  -- what is within the list does not lean on the list
  have lm : LeW W2 { as := Wf.as ++ [Dl], mu := Wf.mu ++ [MO.lst acc], ex := Wf.ex, H := Wf.H } := ⟨⟨[Dl], rfl⟩, fun a o h n t => h, fun a o h n t q => by
    rcases hid a q with q | q
    · exact n (.inl (by rw [q, ex2]; exact List.mem_cons_self))
    · exact a3.dead a o h n t q⟩
  refine tq { as := Wf.as ++ [Dl], mu := Wf.mu ++ [MO.lst acc], ex := Wf.ex, H := Wf.H } _ _ (l1.trans lf) ?_ (Rep.loc ?_) h2
  · refine ⟨by show (W2.as ++ [Dl]).length = (W2.mu ++ [MO.lst acc]).length; simp [ok2.len], ?_, fun a ha => ok2.tr a ?_, fun a ha q => ?_, fun k a z g1 g2 => ?_, ok2.tabs⟩
    · show (W2.as ++ [Dl]).Nodup
      rw [List.nodup_append]
      refine ⟨ok2.nd, by simp, fun a ha b hb e => ?_⟩
      have hb : b = Dl := by simpa using hb
      subst hb
      subst e
      exact a5 ha
    · have ha : a ∈ (W2.as ++ [Dl]) ++ W1.ex := ha
      rw [ex2]
      rw [List.mem_append, List.mem_append] at ha
      rcases ha with (z | z) | z
      · exact List.mem_append_left _ z
      · exact List.mem_append_right _ (by rw [List.mem_singleton.mp z]; exact List.mem_cons_self)
      · exact List.mem_append_right _ (List.mem_cons_of_mem _ z)
    · have q : a ∈ W2.as ++ [Dl] := q
      have ha : a ∈ W1.ex := ha
      rw [List.mem_append, List.mem_singleton] at q
      rcases q with q | q
      · exact ok2.dj a (by rw [ex2]; exact List.mem_cons_of_mem _ ha) q
      · rw [q] at ha
        exact a4 (.inl ha)
    · have g1 : (W2.as ++ [Dl])[k]? = some a := g1
      have g2 : (W2.mu ++ [MO.lst acc])[k]? = some z := g2
      by_cases hk : k < W2.as.length
      · rw [List.getElem?_append_left hk] at g1
        rw [List.getElem?_append_left (ok2.len ▸ hk)] at g2
        exact (ok2.ob k a z g1 g2).monoW lm fun u hu => hu
      · rw [List.getElem?_append_right (by omega)] at g1
        rw [List.getElem?_append_right (by have := ok2.len; omega)] at g2
        have e : a = Dl := by simpa using List.mem_of_getElem? g1
        have e2 : z = MO.lst acc := by simpa using List.mem_of_getElem? g2
        subst e e2
        exact ⟨va, hD2, RepL.monoW lm _ _ ra⟩
  · show (W2.as ++ [Dl])[W2.mu.length]? = some Dl
    rw [← ok2.len, List.getElem?_append_right (Nat.le_refl _), Nat.sub_self]
    rfl
theorem de_lc {elt tg iter : Expr} {ifs : List Expr} {scope : Scope} {own : List (Str × Nat)} {pos : Pos} {wi : DWI} {g : TG} {dg : DG} {tt : DWT} {w : DW} (h : PE X (.ListComp elt [⟨tg, iter, ifs, 0⟩] scope pos) (tLc (tOfI T E wi) g (tOfT T E0 tt) (tOf T E0 w) (own.map (·.2)))) (hg : LcG T g dg (own.map (·.2))) :
    PE X (.ListComp elt [⟨tg, iter, ifs, 0⟩] scope pos) (tOf T E (wLc wi dg tt w (own.map (·.2)))) := h.imp fun _ _ _ h => sim_lc hg h
theorem de_lcM {elt tg iter : Expr} {ifs : List Expr} {scope : Scope} {own : List (Str × Nat)} {pos : Pos} {wi : DWI} {g : TG} {dg : DG} {tt : DWT} {w : DW} (h : PE X (.ListComp elt [⟨tg, iter, ifs, 0⟩] scope pos) (tLc (tOfI T E wi) g (tOfT T E0 tt) (tOf T E0 w) (own.map (·.2)))) (hg : LcG T g dg (own.map (·.2))) :
    PE X (.ListComp elt [⟨tg, iter, ifs, 0⟩] scope pos) (tOf T E (wLcM wi dg tt w (own.map (·.2)))) := h.imp fun _ _ _ h => sim_lcM hg h
theorem ds_lc {st : Stmt} {i : Nat} {vs : List Nat} {wi : DWI} {g : TG} {dg : DG} {tt : DWT} {w : DW} (h : PS X st (tAsg (tLc (tOfI T E wi) g (tOfT T E0 tt) (tOf T E0 w) vs) (gName i))) (hg : LcG T g dg vs) : PS X st (tOfS T E (wAsg i (wLc wi dg tt w vs))) := h.imp fun _ _ _ h => sim_asg (fun _ _ _ h => sim_lc hg h) h
theorem ds_lcM {st : Stmt} {i : Nat} {vs : List Nat} {wi : DWI} {g : TG} {dg : DG} {tt : DWT} {w : DW} (h : PS X st (tAsg (tLc (tOfI T E wi) g (tOfT T E0 tt) (tOf T E0 w) vs) (gName i))) (hg : LcG T g dg vs) : PS X st (tOfS T E (wAsg i (wLcM wi dg tt w vs))) := h.imp fun _ _ _ h => sim_asg (fun _ _ _ h => sim_lcM hg h) h
end

/-! ### defs -/
section
variable {P : Program} {w : World} {K : PySem.W.Frag} {mg : Str → Option Value} {base : Heap} {T : List (Addr × Str)}
/-- a def of the text, by its name -/
structure Df (K : PySem.W.Frag) (mg : Str → Option Value) (x : Str) (st : Stmt) (ps : List Str) : Prop where
  ex : ∃ (f : Addr) (fd : FuncData), Fun K x x st f fd ∧ mg x = some (.ref f) ∧ Binds K fd ps []
mutual
theorem Rep.nl {W : Wd} : ∀ (d : D) (v : V), Rep W d v → nl W.as.length d = true
  | .non, _, _ => rfl
  | .bl _, _, _ => rfl
  | .int _, _, _ => rfl
  | .str _, _, _ => rfl
  | .ty _, _, _ => rfl
  | .ref _, _, _ => rfl
  | .scr _, _, _ => rfl
  | .loc k, _, h => by
    obtain ⟨a, h1, _⟩ := h.loc_of
    unfold DL.nl
    exact decide_eq_true (List.getElem?_eq_some_iff.mp h1).1
  | .tup xs, _, h => by
    obtain ⟨a, vs, _, _, _, h2⟩ := h.tup_of
    unfold DL.nl
    exact RepL.nl xs vs h2
  | .lst xs, _, h => by
    obtain ⟨a, vs, _, _, _, h2⟩ := h.lst_of
    unfold DL.nl
    exact RepL.nl xs vs h2
theorem RepL.nl {W : Wd} : ∀ (ds : List D) (vs : List V), RepL W ds vs → nlL W.as.length ds = true
  | [], _, _ => rfl
  | d :: ds, _, h => by
    obtain ⟨v, r, rfl, h1, h2⟩ := h.uncons
    unfold nlL
    rw [Rep.nl d v h1, RepL.nl ds r h2]
    rfl
end
theorem RepF.nl {κ : Type} {W : Wd} : ∀ {fs : List (κ × D)} {vs : List (κ × V)}, RepF W fs vs → nlF W.as.length fs = true
  | [], _, _ => rfl
  | p :: r, _, ⟨v, s, e, h1, h2⟩ => by
    unfold nlF
    rw [Rep.nl _ _ h1, RepF.nl h2]
    rfl
mutual
theorem nl_mono {n m : Nat} (h : n ≤ m) : ∀ d, nl n d = true → nl m d = true
  | .non, _ => rfl
  | .bl _, _ => rfl
  | .int _, _ => rfl
  | .str _, _ => rfl
  | .ty _, _ => rfl
  | .ref _, _ => rfl
  | .scr _, _ => rfl
  | .loc k, q => by
    unfold DL.nl at q ⊢
    exact decide_eq_true (Nat.lt_of_lt_of_le (of_decide_eq_true q) h)
  | .tup xs, q => by
    unfold DL.nl at q ⊢
    exact nlL_mono h xs q
  | .lst xs, q => by
    unfold DL.nl at q ⊢
    exact nlL_mono h xs q
theorem nlL_mono {n m : Nat} (h : n ≤ m) : ∀ ds, nlL n ds = true → nlL m ds = true
  | [], _ => rfl
  | d :: r, q => by
    unfold nlL at q ⊢
    rw [Bool.and_eq_true] at q ⊢
    exact ⟨nl_mono h d q.1, nlL_mono h r q.2⟩
end
theorem nlF_mono {κ : Type} {n m : Nat} (h : n ≤ m) : ∀ fs : List (κ × D), nlF n fs = true → nlF m fs = true
  | [], _ => rfl
  | p :: r, q => by
    unfold nlF at q ⊢
    rw [Bool.and_eq_true] at q ⊢
    exact ⟨nl_mono h _ q.1, nlF_mono h r q.2⟩
theorem nlM_mono {n m : Nat} (h : n ≤ m) {o : MO} (q : nlM n o = true) : nlM m o = true := by
  cases o with
  | gone => rfl
  | lst xs => exact nlL_mono h xs q
  | ins C fs => exact nlF_mono h fs q
  | dk fs => exact nlF_mono h fs q
  | dt fs => exact nlF_mono h fs q
  | lk od vs fs => exact nlF_mono h fs q
  | lt od vs fs => exact nlF_mono h fs q
theorem WOk.nlM {W : Wd} (ok : WOk T W) {o : MO} (h : o ∈ W.mu) : nlM W.mu.length o = true := by
  obtain ⟨k, hk⟩ := List.mem_iff_getElem?.mp h
  have hl := (List.getElem?_eq_some_iff.mp hk).1
  have hk2 : k < W.as.length := by rw [ok.len]; exact hl
  have ha : W.as[k]? = some W.as[k] := List.getElem?_eq_getElem hk2
  have z := ok.ob k _ o ha hk
  rw [← ok.len]
  cases o with
  | gone => rfl
  | lst xs =>
    obtain ⟨vs, _, r⟩ := z
    exact RepL.nl _ _ r
  | ins C fs =>
    obtain ⟨dx, vs, _, r⟩ := z
    exact RepF.nl r
  | dk fs =>
    obtain ⟨vs, _, r⟩ := z
    exact RepF.nl r
  | dt fs =>
    obtain ⟨vs, _, r⟩ := z
    exact RepF.nl r
  | lk od vs fs => exact RepF.nl z.2
  | lt od vs fs => exact RepF.nl z.2
/-- what is wanted behind the body: the value; what was made within may be forgotten -/
def fin (mu : MS) (Φ : D → MS → Prop) : D → MS → Prop := fun d mu' => Φ d mu' ∨ ∃ n, mu.length ≤ n ∧ nl n d = true ∧ (∀ o, o ∈ mu'.take n → o ∈ mu ∨ nlM n o = true) ∧ Φ d (mu'.take n)
theorem fin_tr {W : Wd} {Φ : D → MS → Prop} {Q : VK} (ok : WOk T W) (tq : TrQ T W Φ Q) : TrQ T W (fin W.mu Φ) Q := fun W' d v l ok' r h => by
  rcases h with h | ⟨n, h1, h2, h3, h4⟩
  · exact tq W' d v l ok' r h
  · exact tq (W'.cut n) d v (l.cut (by rw [ok.len]; exact h1)) (ok'.cut fun o ho => (h3 o ho).elim (fun z => nlM_mono h1 (ok.nlM z)) id) (Rep.cut d v r h2) h4
def startD (n : Nat) (ds : List D) : EnvD := ds.map some ++ List.replicate (n - ds.length) none
theorem repE_start {W : Wd} {N : List Str} {ds : List D} {vs : List V} (r : RepL W ds vs) (h : ds.length ≤ N.length) : RepE W (L2.start N vs) (startD N.length ds) := by
  unfold L2.start startD
  refine ⟨by simp [r.length], fun i d e => ?_⟩
  rw [gt_eq] at e
  by_cases hi : i < ds.length
  · rw [List.getElem?_append_left (by simpa using hi), List.getElem?_map] at e
    cases q : ds[i]? with
    | none => rw [q] at e; cases e
    | some d' =>
      rw [q] at e
      cases e
      obtain ⟨v, e1, e2⟩ := r.get q
      refine ⟨v, ?_, e2⟩
      rw [List.getElem?_append_left (by rw [List.length_map, r.length]; exact hi), List.getElem?_map, e1]
      rfl
  · rw [List.getElem?_append_right (by simpa using hi), List.getElem?_replicate] at e
    split at e <;> cases e
theorem cal0 {x : Str} {st : Stmt} {N ps : List Str} {k : Nat} {S : DSp} {b : DWS} (F : Df K mg x st ps) (sc : FnScope N ps (defScope st)) (len : ∀ ds mu Φ Ξ, S ds mu Φ Ξ → ds.length = ps.length)
    (hbody : ∀ (f : Addr) (cdv : Value) (A : Around) (outer : List Env) (s : Shared) (H : Hp), Room k (A.deeper (envOfC x (defScope st) s.heap.objs.size f cdv)) → PSs (cxOf CX0 P w K mg base N x (defScope st) f cdv A outer s H E0).nox (defBody st) (tOfS T E0 b))
    (hw : ∀ ds mu Φ, S ds mu Φ X0 → b (startD N.length ds) mu ⟨fun _ mu' => fin mu Φ .non mu', fin mu Φ, fun _ _ => False, fun _ _ => False⟩ X0) (hS : ∀ ds mu Φ Ξ, S ds mu Φ Ξ → S ds mu Φ X0) : Cal P w K mg base CX0 (k + 1) x ps (toSp T S) := by
  obtain ⟨f, fd, F, hm, hb⟩ := F.ex
  refine ⟨f, fd, F.ok sc (fun vs H Q E h => ?_) (fun cdv A outer s H vs Q E hr h => ?_), hm, F.kp, hb⟩
  · obtain ⟨W, ds, Φ, Ξ, e1, ok, r, hs, _⟩ := h
    rw [r.length]
    exact len ds W.mu Φ Ξ hs
  · obtain ⟨W, ds, Φ, Ξ, e1, ok, r, hs, tq, tx⟩ := h
    have hE : (cxOf CX0 P w K mg base N x (defScope st) f cdv A outer s H E).nox = (cxOf CX0 P w K mg base N x (defScope st) f cdv A outer s H E0).nox := rfl
    have hl := len ds W.mu Φ Ξ hs
    have hpl : ps.length ≤ N.length := by have := congrArg List.length sc.pre; rw [List.length_take] at this; omega
    refine ⟨tOfS T E0 b, hbody f cdv A outer s H hr, W, startD N.length ds, _, X0, e1, ok, repE_start r (by omega), hw ds W.mu Φ (hS _ _ _ _ hs), ?_, TrX.none⟩
    exact ⟨fun W' σ' ρ' l ok' re h => fin_tr ok tq W' .non .non l ok' .non h, fin_tr ok tq, fun _ _ _ _ _ _ z => z.elim, fun _ _ _ _ _ _ z => z.elim⟩
/-- the same of a raise -/
def finX (mu : MS) (Ξ : XD) : XD := fun c fs mu' => Ξ c fs mu' ∨ ∃ n, mu.length ≤ n ∧ nlF n fs = true ∧ (∀ o, o ∈ mu'.take n → o ∈ mu ∨ nlM n o = true) ∧ Ξ c fs (mu'.take n)
theorem XRep.cut {W : Wd} {n : Nat} {d : Option Addr} {fs : List (Str × D)} (h : XRep W d fs) (q : nlF n fs = true) : XRep (W.cut n) d fs := by
  cases d with
  | none => exact h
  | some a =>
    obtain ⟨h0, vs, h1, h2⟩ := h
    exact ⟨h0, vs, h1, RepF.cut h2 q⟩
theorem finX_tr {W : Wd} {Ξ : XD} {E : XK} (ok : WOk T W) (tx : TrX T W Ξ E) : TrX T W (finX W.mu Ξ) E := fun W' c d fs l ok' r h => by
  rcases h with h | ⟨n, h1, h2, h3, h4⟩
  · exact tx W' c d fs l ok' r h
  · exact tx (W'.cut n) c d fs (l.cut (by rw [ok.len]; exact h1)) (ok'.cut fun o ho => (h3 o ho).elim (fun z => nlM_mono h1 (ok.nlM z)) id) (r.cut h2) h4
theorem _root_.L2.Fun.okG {CX : CXT} {x qual : Str} {st : Stmt} {f : Addr} {fd : FuncData} {N ps : List Str} {k : Nat} {sp : Sp} (F : Fun K x qual st f fd) (S : FnScope N ps (defScope st)) (len : ∀ vs H Q E, sp vs H Q E → vs.length = ps.length)
    (hbody : ∀ (cdv : Value) (A : Around) (outer : List Env) (s : Shared) (H : Hp) (vs : List V) (Q : VK) (E : XK), Room k (A.deeper (envOfC qual (defScope st) s.heap.objs.size f cdv)) → sp vs H Q E →
      ∃ t, PSs (cxOf CX P w K mg base N qual (defScope st) f cdv A outer s H E) (defBody st) t ∧ t { nx := fun _ H' => Q .non H', rt := Q } (L2.start N vs) H) : FnOk P w K mg base CX (k + 1) f fd ps sp := by
  obtain ⟨oc, od, kV, doc, pm, an, cdv, ct, osl, rfl, lk, hcd⟩ := F.ex
  exact fn_of lk hcd S len fun A outer s H vs Q E hr hsp => hbody cdv A outer s H vs Q E hr hsp
/-- .. that may raise -/
theorem calX {x : Str} {st : Stmt} {N ps : List Str} {k : Nat} {S : DSp} {b : DWS} (F : Df K mg x st ps) (sc : FnScope N ps (defScope st)) (len : ∀ ds mu Φ Ξ, S ds mu Φ Ξ → ds.length = ps.length)
    (hbody : ∀ (f : Addr) (cdv : Value) (A : Around) (outer : List Env) (s : Shared) (H : Hp) (E : XK), Room k (A.deeper (envOfC x (defScope st) s.heap.objs.size f cdv)) → PSs (cxOf (L2N.CX P w) P w K mg base N x (defScope st) f cdv A outer s H E) (defBody st) (tOfS T E b))
    (hw : ∀ ds mu Φ Ξ, S ds mu Φ Ξ → b (startD N.length ds) mu ⟨fun _ mu' => fin mu Φ .non mu', fin mu Φ, fun _ _ => False, fun _ _ => False⟩ (finX mu Ξ)) : Cal P w K mg base (L2N.CX P w) (k + 1) x ps (toSp T S) := by
  obtain ⟨f, fd, F, hm, hb⟩ := F.ex
  refine ⟨f, fd, F.okG sc (fun vs H Q E h => ?_) (fun cdv A outer s H vs Q E hr h => ?_), hm, F.kp, hb⟩
  · obtain ⟨W, ds, Φ, Ξ, e1, ok, r, hs, _⟩ := h
    rw [r.length]
    exact len ds W.mu Φ Ξ hs
  · obtain ⟨W, ds, Φ, Ξ, e1, ok, r, hs, tq, tx⟩ := h
    have hl := len ds W.mu Φ Ξ hs
    have hpl : ps.length ≤ N.length := by have := congrArg List.length sc.pre; rw [List.length_take] at this; omega
    refine ⟨tOfS T E b, hbody f cdv A outer s H E hr, W, startD N.length ds, _, finX W.mu Ξ, e1, ok, repE_start r (by omega), hw ds W.mu Φ Ξ hs, ?_, finX_tr ok tx⟩
    exact ⟨fun W' σ' ρ' l ok' re h => fin_tr ok tq W' .non .non l ok' .non h, fin_tr ok tq, fun _ _ _ _ _ _ z => z.elim, fun _ _ _ _ _ _ z => z.elim⟩
end
end DL
set_option maxHeartbeats 4000000
/-! DL4: operators, comparisons, built-ins, subscripts over data. -/
namespace DL
open PySem PySem.Spec PyProof.Rows L2
/-! ### + -/
def rCatLK (K : PySem.W.Frag) : R2 := fun x y H Q => ∃ l b xs zs, x = .ref l ∧ y = .ref b ∧ SqL K H l xs ∧ SqL K H b zs ∧ xs.length + zs.length ≤ sizeLine ∧ ∀ p, H p = none → Q (.ref p) (upd H p (.lst (xs ++ zs)))
theorem op_catLK {X : Cx} : OpR X (binaryOp .Add) (rCatLK X.K) := by
  intro pins s σ H x y v u Q I rx ry h
  obtain ⟨l, b, xs, zs, rfl, rfl, hH, hB, hz, q⟩ := h
  cases rx
  cases ry
  obtain ⟨its, r, p1, z1⟩ := I.list hH
  obtain ⟨its2, r2, p2, z2⟩ := I.list hB
  obtain ⟨⟨cls, dd, data, sl⟩, n, ho, hc, _, hd⟩ := p1
  obtain ⟨⟨cls2, dd2, data2, sl2⟩, n2, ho2, hc2, _, hd2⟩ := p2
  dsimp only at hc hd hc2 hd2
  subst hc hd hc2 hd2
  have hlen : its.toArray.size + its2.toArray.size ≤ sizeLine := by rw [List.size_toArray, List.size_toArray, ← r.length, ← r2.length]; exact hz
  refine concat_meets ⟨_, ho, rfl⟩ ⟨_, ho2, rfl⟩ noFill_list_add seq_list_add PySem.F.slot_list_add PySem.F.entry_list_add (PySem.F.args_list_add_2 _ _) (list_addW l b its.toArray its2.toArray n n2 dd dd2 sl sl2 hlen) ⟨ho, ho2, ?_⟩
  have ea : its.toArray ++ its2.toArray = (its ++ its2).toArray := by simp
  rw [ea]
  exact ⟨.ref _, _, I.lnew (t' := s.toks) (r.append r2) (by rw [List.length_append]; exact hz), rfl, q _ (I.hok.fresh (Nat.le_refl _))⟩
theorem sz5 {n : Nat} (h : n ≤ 100000) : n ≤ sizeLine := Nat.le_trans h (by decide)
def dAdd : DR := fun x y mu Φ => match x, y with
  | .int a, .int b => Φ (.int (a + b)) mu
  | .str a, .str b => a.length + b.length ≤ 100000 ∧ Φ (.str (a ++ b)) mu
  | .lst xs, .lst ys => xs.length + ys.length ≤ 100000 ∧ Φ (.lst (xs ++ ys)) mu
  | .tup xs, .tup ys => xs.length + ys.length ≤ 100000 ∧ Φ (.tup (xs ++ ys)) mu
  | .lst xs, .scr ns => xs.length + ns.length ≤ 100000 ∧ Φ (.lst (xs ++ ns.map D.int)) mu
  | _, _ => False
def dAddM : DR := fun x y mu Φ => match x, y with
  | .lst xs, .lst ys => xs.length + ys.length ≤ 100000 ∧ Φ (.loc mu.length) (mu ++ [.lst (xs ++ ys)])
  | _, _ => False
section
variable {X : Cx} {T : List (Addr × Str)}
theorem op_addA : OpR X (binaryOp .Add) (fun x y H Q => rI0 (fun i j => .int (i + j)) x y H Q ∨ (∃ i j, x = .str i ∧ y = .str j ∧ i.length + j.length ≤ sizeLine ∧ Q (.str (i ++ j)) H) ∨ rCatLK X.K x y H Q ∨ rCatA X.K x y H Q) :=
  op_add.or (op_add_str.or (op_catLK.or op_catA))
theorem s_add {K : PySem.W.Frag} : SimR T (fun x y H Q => rI0 (fun i j => .int (i + j)) x y H Q ∨ (∃ i j, x = .str i ∧ y = .str j ∧ i.length + j.length ≤ sizeLine ∧ Q (.str (i ++ j)) H) ∨ rCatLK K x y H Q ∨ rCatA K x y H Q) dAdd := fun W x y u v Φ Q ok rx ry h tq => by
  cases x <;> cases y <;> try exact h.elim
  · rename_i a b
    exact .inl ⟨a, b, rx.int_of, ry.int_of, tq W _ _ (.refl W) ok .int h⟩
  · rename_i a b
    exact .inr (.inl ⟨a, b, rx.str_of, ry.str_of, sz5 h.1, tq W _ _ (.refl W) ok .str h.2⟩)
  · rename_i xs ys
    obtain ⟨p, vs, rfl, n1, h1, h2⟩ := rx.tup_of
    obtain ⟨q, us, rfl, n3, h3, h4⟩ := ry.tup_of
    refine .inr (.inr (.inr ⟨p, q, vs, us, rfl, rfl, SqT.of h1, SqT.of h3, by rw [h2.length, h4.length]; exact sz5 h.1, fun e => ?_, fun e1 e2 => ?_, fun e1 e2 => tq.tup ok (h2.append h4) h.2⟩))
    · subst e
      have : xs = [] := List.eq_nil_of_length_eq_zero (by rw [← h2.length]; rfl)
      subst this
      exact tq W _ _ (.refl W) ok ry h.2
    · subst e2
      have : ys = [] := List.eq_nil_of_length_eq_zero (by rw [← h4.length]; rfl)
      subst this
      have e3 : xs ++ [] = xs := List.append_nil xs
      exact tq W _ _ (.refl W) ok rx (e3 ▸ h.2)
  · rename_i xs ys
    obtain ⟨p, vs, rfl, n1, h1, h2⟩ := rx.lst_of
    obtain ⟨q, us, rfl, n3, h3, h4⟩ := ry.lst_of
    exact .inr (.inr (.inl ⟨p, q, vs, us, rfl, rfl, SqL.of h1, SqL.of h3, by rw [h2.length, h4.length]; exact sz5 h.1, tq.lst ok (h2.append h4) h.2⟩))
  · rename_i xs ns
    obtain ⟨p, vs, rfl, n1, h1, h2⟩ := rx.lst_of
    obtain ⟨q, rfl, n3, h3⟩ := ry.scr_of
    exact .inr (.inr (.inl ⟨p, q, vs, _, rfl, rfl, SqL.of h1, .inl h3, by rw [h2.length, List.length_map]; exact sz5 h.1, tq.lst ok (h2.append (RepL.ints ns)) h.2⟩))
theorem s_addM {K : PySem.W.Frag} : SimR T (rCatLK K) dAddM := fun W x y u v Φ Q ok rx ry h tq => by
  cases x <;> cases y <;> try exact h.elim
  rename_i xs ys
  obtain ⟨p, vs, rfl, n1, h1, h2⟩ := rx.lst_of
  obtain ⟨q, us, rfl, n3, h3, h4⟩ := ry.lst_of
  exact ⟨p, q, vs, us, rfl, rfl, SqL.of h1, SqL.of h3, by rw [h2.length, h4.length]; exact sz5 h.1, tq.lstM ok (h2.append h4) h.2⟩

/-! ### -, *, //, %, ** -/
def dSub : DR := fun x y mu Φ => match x, y with | .int a, .int b => Φ (.int (a - b)) mu | _, _ => False
theorem s_sub : SimR T (rI0 fun i j => .int (i - j)) dSub := fun W x y u v Φ Q ok rx ry h tq => by
  cases x <;> cases y <;> try exact h.elim
  exact ⟨_, _, rx.int_of, ry.int_of, tq W _ _ (.refl W) ok .int h⟩
def dMul : DR := fun x y mu Φ => match x, y with
  | .int a, .int b => CMulW a b ∧ Φ (.int (a * b)) mu
  | .lst xs, .int k => (0 ≤ k ∧ k ≤ 1000 ∧ xs.length ≤ 100) ∧ Φ (.lst (List.replicate k.toNat xs).flatten) mu
  | .tup xs, .int k => (2 ≤ k ∧ k ≤ 1000 ∧ xs.length ≤ 1000 ∧ xs ≠ []) ∧ Φ (.tup (List.replicate k.toNat xs).flatten) mu
  | _, _ => False
def dMulM : DR := fun x y mu Φ => match x, y with
  | .lst xs, .int k => (0 ≤ k ∧ k ≤ 1000 ∧ xs.length ≤ 100) ∧ Φ (.loc mu.length) (mu ++ [.lst (List.replicate k.toNat xs).flatten])
  | _, _ => False
/-- a list times an int, a list that is read -/
theorem op_mulA : OpR X (binaryOp .Mult) (fun x y H Q => rI CMulW (fun i j => .int (i * j)) x y H Q ∨ rRep x y H Q ∨ rRepT X.K x y H Q) := op_mulW.or (op_rep.or op_repT)
theorem rep_sz {xs : List D} {vs : List V} {W : Wd} {k : Int} (r : RepL W xs vs) (h : k ≤ 1000 ∧ xs.length ≤ 100) : vs.length * k.toNat ≤ sizeLine := by
  have h1 : vs.length ≤ 100 := by rw [r.length]; exact h.2
  have h2 : k.toNat ≤ 1000 := by omega
  exact Nat.le_trans (Nat.mul_le_mul h1 h2) (by decide)
theorem s_mul {K : PySem.W.Frag} : SimR T (fun x y H Q => rI CMulW (fun i j => .int (i * j)) x y H Q ∨ rRep x y H Q ∨ rRepT K x y H Q) dMul := fun W x y u v Φ Q ok rx ry h tq => by
  cases x <;> cases y <;> try exact h.elim
  · exact .inl ⟨_, _, rx.int_of, ry.int_of, h.1, tq W _ _ (.refl W) ok .int h.2⟩
  · rename_i xs k
    obtain ⟨p, vs, rfl, n1, h1, h2⟩ := rx.tup_of
    refine .inr (.inr ⟨p, k, vs, rfl, ry.int_of, SqT.of h1, fun e => ?_, h.1.1, h.1.2.1, by rw [h2.length]; exact h.1.2.2.1, tq.tup ok (h2.rep _) h.2⟩)
    subst e
    exact h.1.2.2.2 (List.eq_nil_of_length_eq_zero (by rw [← h2.length]; rfl))
  · rename_i xs k
    obtain ⟨p, vs, rfl, n1, h1, h2⟩ := rx.lst_of
    exact .inr (.inl ⟨p, k, vs, rfl, ry.int_of, h1, by have := h.1.1; omega, by have := h.1.2.1; omega, rep_sz h2 h.1.2, tq.lst ok (h2.rep _) h.2⟩)
theorem s_mulM : SimR T rRep dMulM := fun W x y u v Φ Q ok rx ry h tq => by
  cases x <;> cases y <;> try exact h.elim
  rename_i xs k
  obtain ⟨p, vs, rfl, n1, h1, h2⟩ := rx.lst_of
  exact ⟨p, k, vs, rfl, ry.int_of, h1, by have := h.1.1; omega, by have := h.1.2.1; omega, rep_sz h2 h.1.2, tq.lstM ok (h2.rep _) h.2⟩
def dFdiv : DR := fun x y mu Φ => match x, y with | .int a, .int b => CDivW a b ∧ Φ (.int (a / b)) mu | _, _ => False
theorem s_fdiv : SimR T (rI CDivW fun i j => .int (i / j)) dFdiv := fun W x y u v Φ Q ok rx ry h tq => by
  cases x <;> cases y <;> try exact h.elim
  exact ⟨_, _, rx.int_of, ry.int_of, h.1, tq W _ _ (.refl W) ok .int h.2⟩
def dMod : DR := fun x y mu Φ => match x, y with | .int a, .int b => b ≠ 0 ∧ Φ (.int (a.fmod b)) mu | _, _ => False
theorem s_mod : SimR T (rI (fun _ j => j ≠ 0) fun i j => .int (i.fmod j)) dMod := fun W x y u v Φ Q ok rx ry h tq => by
  cases x <;> cases y <;> try exact h.elim
  exact ⟨_, _, rx.int_of, ry.int_of, h.1, tq W _ _ (.refl W) ok .int h.2⟩
def dPow : DR := fun x y mu Φ => match x, y with | .int a, .int b => CPow a b ∧ Φ (.int (a ^ b.toNat)) mu | _, _ => False
theorem s_pow : SimR T (rI CPow fun i j => .int (i ^ j.toNat)) dPow := fun W x y u v Φ Q ok rx ry h tq => by
  cases x <;> cases y <;> try exact h.elim
  exact ⟨_, _, rx.int_of, ry.int_of, h.1, tq W _ _ (.refl W) ok .int h.2⟩
def dNeg : D → MS → (D → MS → Prop) → Prop := fun x mu Φ => match x with | .int a => Φ (.int (-a)) mu | _ => False
theorem s_neg : SimU T (rU fun i => .int (-i)) dNeg := fun W x u Φ Q ok rx h tq => by
  cases x <;> try exact h.elim
  exact ⟨_, rx.int_of, tq W _ _ (.refl W) ok .int h⟩

/-! ### comparisons -/
def dCmpI (p : Int → Int → Bool) : DR := fun x y mu Φ => match x, y with | .int a, .int b => Φ (.bl (p a b)) mu | _, _ => False
theorem s_cmpI {p : Int → Int → Bool} : SimR T (rI0 fun i j => .bl (p i j)) (dCmpI p) := fun W x y u v Φ Q ok rx ry h tq => by
  cases x <;> cases y <;> try exact h.elim
  exact ⟨_, _, rx.int_of, ry.int_of, tq W _ _ (.refl W) ok .bl h⟩
mutual
def py : D → PyData
  | .non => .none
  | .bl b => .bool b
  | .int i => .int i
  | .str x => .str x
  | .tup xs => .tuple (pyL xs)
  | .lst xs => .list (pyL xs)
  | _ => .dict []
def pyL : List D → List PyData
  | [] => []
  | d :: r => py d :: pyL r
end
def okd (d : D) : Bool := SeqAt.shaped (py d)
def eqd (d e : D) : Bool := PyData.eqv (py d) (py e)
mutual
theorem dp_of {K : PySem.W.Frag} {W : Wd} : ∀ (d : D) (v : V), Rep W d v → PyData.canLay0 (py d) = true → Dp K W.H v (py d)
  | .non, _, h, _ => by rw [h.non_of]; exact .non
  | .bl b, _, h, _ => by rw [h.bl_of]; exact .bl b
  | .int b, _, h, _ => by rw [h.int_of]; exact .int b
  | .str b, _, h, _ => by rw [h.str_of]; exact .str b
  | .ty _, _, _, q => by unfold py at q; cases q
  | .ref _, _, _, q => by unfold py at q; cases q
  | .loc _, _, _, q => by unfold py at q; cases q
  | .scr _, _, _, q => by unfold py at q; cases q
  | .tup xs, _, h, q => by
    obtain ⟨a, vs, rfl, _, h1, h2⟩ := h.tup_of
    unfold py at q ⊢
    unfold PyData.canLay0 at q
    exact .tup (SqT.of h1) (dpL_of xs vs h2 q)
  | .lst xs, _, h, q => by
    obtain ⟨a, vs, rfl, _, h1, h2⟩ := h.lst_of
    unfold py at q ⊢
    unfold PyData.canLay0 at q
    exact .lst (SqL.of h1) (dpL_of xs vs h2 q)
theorem dpL_of {K : PySem.W.Frag} {W : Wd} : ∀ (ds : List D) (vs : List V), RepL W ds vs → PyData.canLayAll0 (pyL ds) = true → DpAll K W.H vs (pyL ds)
  | [], _, h, _ => by rw [h.nil_of]; unfold pyL; exact .nil
  | d :: ds, _, h, q => by
    obtain ⟨v, r, rfl, h1, h2⟩ := h.uncons
    unfold pyL at q ⊢
    unfold PyData.canLayAll0 at q
    rw [Bool.and_eq_true] at q
    exact .cons (dp_of d v h1 q.1) (dpL_of ds r h2 q.2)
end
def dEq : DR := fun x y mu Φ => okd x = true ∧ okd y = true ∧ Φ (.bl (eqd x y)) mu
def dNe : DR := fun x y mu Φ => okd x = true ∧ okd y = true ∧ Φ (.bl (!eqd x y)) mu
theorem s_eq {K : PySem.W.Frag} : SimR T (rEqD K) dEq := fun W x y u v Φ Q ok rx ry h tq =>
  ⟨py x, py y, dp_of x u rx (SeqAt.canLay_of_shaped h.1), dp_of y v ry (SeqAt.canLay_of_shaped h.2.1), h.1, h.2.1, tq W _ _ (.refl W) ok .bl h.2.2⟩
theorem s_ne {K : PySem.W.Frag} : SimR T (rNeD K) dNe := fun W x y u v Φ Q ok rx ry h tq =>
  ⟨py x, py y, dp_of x u rx (SeqAt.canLay_of_shaped h.1), dp_of y v ry (SeqAt.canLay_of_shaped h.2.1), h.1, h.2.1, tq W _ _ (.refl W) ok .bl h.2.2⟩
def isN : D → Bool | .non => true | _ => false
theorem isN_of {W : Wd} {d : D} {v : V} (h : Rep W d v) : decide (v = .non) = isN d := by
  cases d with
  | non => rw [h.non_of]; rfl
  | bl b => rw [h.bl_of]; rfl
  | int b => rw [h.int_of]; rfl
  | str b => rw [h.str_of]; rfl
  | ty b => rw [h.ty_of]; rfl
  | ref b => rw [h.ref_of]; rfl
  | loc b => obtain ⟨a, _, rfl⟩ := h.loc_of; rfl
  | tup b => obtain ⟨a, _, rfl, _⟩ := h.tup_of; rfl
  | lst b => obtain ⟨a, _, rfl, _⟩ := h.lst_of; rfl
  | scr b => obtain ⟨a, rfl, _⟩ := h.scr_of; rfl
def dIsN : DR := fun x y mu Φ => match y with | .non => Φ (.bl (isN x)) mu | _ => False
def dNotN : DR := fun x y mu Φ => match y with | .non => Φ (.bl (!isN x)) mu | _ => False
theorem s_isN : SimR T (fun x y H Q => y = .non ∧ Q (.bl (decide (x = .non))) H) dIsN := fun W x y u v Φ Q ok rx ry h tq => by
  cases y <;> try exact h.elim
  exact ⟨ry.non_of, by rw [isN_of rx]; exact tq W _ _ (.refl W) ok .bl h⟩
theorem s_notN : SimR T (fun x y H Q => y = .non ∧ Q (.bl (!decide (x = .non))) H) dNotN := fun W x y u v Φ Q ok rx ry h tq => by
  cases y <;> try exact h.elim
  exact ⟨ry.non_of, by rw [isN_of rx]; exact tq W _ _ (.refl W) ok .bl h⟩

/-! ### built-ins -/
def dLen : List D → MS → (D → MS → Prop) → Prop := fun ds mu Φ => match ds with
  | [.lst xs] => Φ (.int xs.length) mu
  | [.tup xs] => Φ (.int xs.length) mu
  | [.str z] => z.length ≤ 100000 ∧ Φ (.int z.length) mu
  | [.loc k] => (match mu[k]? with | some (.lst xs) => Φ (.int xs.length) mu | _ => False)
  | _ => False
theorem call_lenA : CallR X (.builtin "len") (fun xs H Q => (∃ p ys, xs = [.ref p] ∧ (SqL X.K H p ys ∨ SqT X.K H p ys) ∧ Q (.int ys.length) H) ∨ ∃ z, xs = [.str z] ∧ z.length ≤ sizeLine ∧ Q (.int z.length) H) := call_len_seq.or call_len_str
theorem s_len {K : PySem.W.Frag} : SimC T (fun xs H Q => (∃ p ys, xs = [.ref p] ∧ (SqL K H p ys ∨ SqT K H p ys) ∧ Q (.int ys.length) H) ∨ ∃ z, xs = [.str z] ∧ z.length ≤ sizeLine ∧ Q (.int z.length) H) dLen := fun W xs us Φ Q ok r h tq => by
  unfold dLen at h
  split at h
  · obtain ⟨v, rfl, r1⟩ := r.one_of
    obtain ⟨a, vs, rfl, _, h1, h2⟩ := r1.lst_of
    exact .inl ⟨a, vs, rfl, .inl (SqL.of h1), tq W _ _ (.refl W) ok (by rw [h2.length]; exact .int) h⟩
  · obtain ⟨v, rfl, r1⟩ := r.one_of
    obtain ⟨a, vs, rfl, _, h1, h2⟩ := r1.tup_of
    exact .inl ⟨a, vs, rfl, .inr (SqT.of h1), tq W _ _ (.refl W) ok (by rw [h2.length]; exact .int) h⟩
  · obtain ⟨v, rfl, r1⟩ := r.one_of
    exact .inr ⟨_, by rw [r1.str_of], sz5 h.1, tq W _ _ (.refl W) ok .int h.2⟩
  · obtain ⟨v, rfl, r1⟩ := r.one_of
    rename_i k
    obtain ⟨a, ha, rfl⟩ := r1.loc_of
    cases q : W.mu[k]? with
    | none => rw [q] at h; exact h.elim
    | some m =>
      rw [q] at h
      cases m with
      | lst xs =>
        obtain ⟨vs, h1, h2⟩ := ok.ob k a _ ha q
        exact .inl ⟨a, vs, rfl, .inl (SqL.of h1), tq W _ _ (.refl W) ok (by rw [h2.length]; exact .int) h⟩
      | _ => exact h.elim
  · exact h.elim
/-- the name of a value's type -/
def tyD : D → MS → Option String
  | .non, _ => some "NoneType"
  | .bl _, _ => some "bool"
  | .int _, _ => some "int"
  | .str _, _ => some "str"
  | .tup _, _ => some "tuple"
  | .lst _, _ => some "list"
  | .loc k, mu => (match mu[k]? with | some (.lst _) => some "list" | _ => none)
  | _, _ => none
theorem tyX_of {K : PySem.W.Frag} {W : Wd} (ok : WOk T W) {d : D} {v : V} {n : String} (h : Rep W d v) (e : tyD d W.mu = some n) : TyX K W.H v (.type n) := by
  cases d with
  | non => rw [h.non_of]; cases e; exact .base .non
  | bl b => rw [h.bl_of]; cases e; exact .base (.bl _)
  | int b => rw [h.int_of]; cases e; exact .base (.int _)
  | str b => rw [h.str_of]; cases e; exact .base (.str _)
  | tup b => obtain ⟨a, vs, rfl, _, h1, _⟩ := h.tup_of; cases e; exact .base (.tup h1)
  | lst b => obtain ⟨a, vs, rfl, _, h1, _⟩ := h.lst_of; cases e; exact .base (.lst h1)
  | loc k =>
    obtain ⟨a, ha, rfl⟩ := h.loc_of
    unfold tyD at e
    dsimp only at e
    cases q : W.mu[k]? with
    | none => rw [q] at e; cases e
    | some m =>
      rw [q] at e
      cases m with
      | lst xs =>
        obtain ⟨vs, h1, _⟩ := ok.ob k a _ ha q
        cases e
        exact .base (.lst h1)
      | _ => cases e
  | _ => cases e
/-- isinstance of built-in types, by their names -/
def isT : String → String → Bool
  | "bool", "int" => true
  | a, b => a == b
def tyNames : List String := ["NoneType", "bool", "int", "str", "tuple", "list"]
theorem kit_isT : ∀ a ∈ tyNames, ∀ b ∈ ["bool", "int", "str", "tuple", "list"], kitB a b = some (isT a b) := by decide +kernel
def dIsi : List D → MS → (D → MS → Prop) → Prop := fun ds mu Φ => match ds with
  | [x, .ty n] => (match tyD x mu with | some m => n ∈ ["bool", "int", "str", "tuple", "list"] ∧ Φ (.bl (isT m n)) mu | none => False)
  | _ => False
theorem tyD_mem {d : D} {mu : MS} {m : String} (e : tyD d mu = some m) : m ∈ tyNames := by
  cases d with
  | loc k =>
    unfold tyD at e
    dsimp only at e
    split at e
    · cases e; decide
    · cases e
  | _ => first | (cases e; decide) | (unfold tyD at e; cases e)
theorem s_isi {K : PySem.W.Frag} : SimC T (rIsi K) dIsi := fun W xs us Φ Q ok r h tq => by
  unfold dIsi at h
  split at h
  · rename_i x n
    obtain ⟨v, v', rfl, r1, r2⟩ := r.two_of
    cases q : tyD x W.mu with
    | none => rw [q] at h; exact h.elim
    | some m =>
      rw [q] at h
      rw [r2.ty_of]
      exact ⟨v, .ty n, .type m, .type n, isT m n, rfl, .ty n, tyX_of ok r1 q, kit_ty (kit_isT m (tyD_mem q) n h.1), tq W _ _ (.refl W) ok .bl h.2⟩
  · exact h.elim
def dAbs : List D → MS → (D → MS → Prop) → Prop := fun ds mu Φ => match ds with | [.int i] => Φ (.int (i.natAbs : Nat)) mu | _ => False
theorem s_abs : SimC T (fun xs H Q => ∃ i, xs = [.int i] ∧ Q (.int (if i < 0 then -i else i)) H) dAbs := fun W xs us Φ Q ok r h tq => by
  unfold dAbs at h
  split at h
  · obtain ⟨v, rfl, r1⟩ := r.one_of
    refine ⟨_, by rw [r1.int_of], tq W _ _ (.refl W) ok ?_ h⟩
    rename_i i
    rw [show (if i < 0 then -i else i) = ((i.natAbs : Nat) : Int) by split <;> omega]
    exact .int
  · exact h.elim
def dMax : List D → MS → (D → MS → Prop) → Prop := fun ds mu Φ => match ds with | [.int i, .int j] => Φ (.int (max i j)) mu | _ => False
def dMin : List D → MS → (D → MS → Prop) → Prop := fun ds mu Φ => match ds with | [.int i, .int j] => Φ (.int (min i j)) mu | _ => False
theorem s_max : SimC T (fun xs H Q => ∃ i j, xs = [.int i, .int j] ∧ Q (.int (if j > i then j else i)) H) dMax := fun W xs us Φ Q ok r h tq => by
  unfold dMax at h
  split at h
  · obtain ⟨v, v', rfl, r1, r2⟩ := r.two_of
    refine ⟨_, _, by rw [r1.int_of, r2.int_of], tq W _ _ (.refl W) ok ?_ h⟩
    rename_i i j
    rw [show (if j > i then j else i) = max i j by split <;> omega]
    exact .int
  · exact h.elim
theorem s_min : SimC T (fun xs H Q => ∃ i j, xs = [.int i, .int j] ∧ Q (.int (if j < i then j else i)) H) dMin := fun W xs us Φ Q ok r h tq => by
  unfold dMin at h
  split at h
  · obtain ⟨v, v', rfl, r1, r2⟩ := r.two_of
    refine ⟨_, _, by rw [r1.int_of, r2.int_of], tq W _ _ (.refl W) ok ?_ h⟩
    rename_i i j
    rw [show (if j < i then j else i) = min i j by split <;> omega]
    exact .int
  · exact h.elim
def dInt : List D → MS → (D → MS → Prop) → Prop := fun ds mu Φ => match ds with | [.int i] => Φ (.int i) mu | [.bl b] => Φ (.int (if b then 1 else 0)) mu | _ => False
theorem s_int : SimC T (fun xs H Q => (∃ i, xs = [.int i] ∧ Q (.int i) H) ∨ ∃ k, xs = [.bl k] ∧ Q (.int (if k then 1 else 0)) H) dInt := fun W xs us Φ Q ok r h tq => by
  unfold dInt at h
  split at h
  · obtain ⟨v, rfl, r1⟩ := r.one_of
    exact .inl ⟨_, by rw [r1.int_of], tq W _ _ (.refl W) ok .int h⟩
  · obtain ⟨v, rfl, r1⟩ := r.one_of
    exact .inr ⟨_, by rw [r1.bl_of], tq W _ _ (.refl W) ok .int h⟩
  · exact h.elim
def dBool : List D → MS → (D → MS → Prop) → Prop := fun ds mu Φ => match ds with | [.int i] => Φ (.bl (i != 0)) mu | [.bl b] => Φ (.bl b) mu | _ => False
theorem s_bool : SimC T (fun xs H Q => (∃ i, xs = [.int i] ∧ Q (.bl (i != 0)) H) ∨ ∃ k, xs = [.bl k] ∧ Q (.bl k) H) dBool := fun W xs us Φ Q ok r h tq => by
  unfold dBool at h
  split at h
  · obtain ⟨v, rfl, r1⟩ := r.one_of
    exact .inl ⟨_, by rw [r1.int_of], tq W _ _ (.refl W) ok .bl h⟩
  · obtain ⟨v, rfl, r1⟩ := r.one_of
    exact .inr ⟨_, by rw [r1.bl_of], tq W _ _ (.refl W) ok .bl h⟩
  · exact h.elim
def dTuple : List D → MS → (D → MS → Prop) → Prop := fun ds mu Φ => match ds with
  | [.lst xs] => Φ (.tup xs) mu
  | [.tup xs] => Φ (.tup xs) mu
  | [.loc k] => (match mu[k]? with | some (.lst xs) => Φ (.tup xs) mu | _ => False)
  | _ => False
theorem s_tuple {K : PySem.W.Frag} : SimC T (fun xs H Q => ∃ p ys, xs = [.ref p] ∧ ((SqL K H p ys ∧ ∀ l, H l = none → Q (.ref l) (upd H l (.tup ys))) ∨ (SqT K H p ys ∧ Q (.ref p) H))) dTuple := fun W xs us Φ Q ok r h tq => by
  unfold dTuple at h
  split at h
  · obtain ⟨v, rfl, r1⟩ := r.one_of
    obtain ⟨a, vs, rfl, _, h1, h2⟩ := r1.lst_of
    exact ⟨a, vs, rfl, .inl ⟨SqL.of h1, tq.tup ok h2 h⟩⟩
  · obtain ⟨v, rfl, r1⟩ := r.one_of
    obtain ⟨a, vs, rfl, _, h1, h2⟩ := r1.tup_of
    exact ⟨a, vs, rfl, .inr ⟨SqT.of h1, tq W _ _ (.refl W) ok r1 h⟩⟩
  · obtain ⟨v, rfl, r1⟩ := r.one_of
    rename_i k
    obtain ⟨a, ha, rfl⟩ := r1.loc_of
    cases q : W.mu[k]? with
    | none => rw [q] at h; exact h.elim
    | some m =>
      rw [q] at h
      cases m with
      | lst xs =>
        obtain ⟨vs, h1, h2⟩ := ok.ob k a _ ha q
        exact ⟨a, vs, rfl, .inl ⟨SqL.of h1, tq.tup ok h2 h⟩⟩
      | _ => exact h.elim
  · exact h.elim
def dList : List D → MS → (D → MS → Prop) → Prop := fun ds mu Φ => match ds with
  | [.lst xs] => Φ (.lst xs) mu
  | [.tup xs] => Φ (.lst xs) mu
  | _ => False
def dListM : List D → MS → (D → MS → Prop) → Prop := fun ds mu Φ => match ds with
  | [.lst xs] => Φ (.loc mu.length) (mu ++ [.lst xs])
  | [.tup xs] => Φ (.loc mu.length) (mu ++ [.lst xs])
  | _ => False
theorem s_list {K : PySem.W.Frag} : SimC T (fun xs H Q => ∃ p ys, xs = [.ref p] ∧ (SqL K H p ys ∨ SqT K H p ys) ∧ ∀ l, H l = none → Q (.ref l) (upd H l (.lst ys))) dList := fun W xs us Φ Q ok r h tq => by
  unfold dList at h
  split at h
  · obtain ⟨v, rfl, r1⟩ := r.one_of
    obtain ⟨a, vs, rfl, _, h1, h2⟩ := r1.lst_of
    exact ⟨a, vs, rfl, .inl (SqL.of h1), tq.lst ok h2 h⟩
  · obtain ⟨v, rfl, r1⟩ := r.one_of
    obtain ⟨a, vs, rfl, _, h1, h2⟩ := r1.tup_of
    exact ⟨a, vs, rfl, .inr (SqT.of h1), tq.lst ok h2 h⟩
  · exact h.elim
theorem s_listM {K : PySem.W.Frag} : SimC T (fun xs H Q => ∃ p ys, xs = [.ref p] ∧ (SqL K H p ys ∨ SqT K H p ys) ∧ ∀ l, H l = none → Q (.ref l) (upd H l (.lst ys))) dListM := fun W xs us Φ Q ok r h tq => by
  unfold dListM at h
  split at h
  · obtain ⟨v, rfl, r1⟩ := r.one_of
    obtain ⟨a, vs, rfl, _, h1, h2⟩ := r1.lst_of
    exact ⟨a, vs, rfl, .inl (SqL.of h1), tq.lstM ok h2 h⟩
  · obtain ⟨v, rfl, r1⟩ := r.one_of
    obtain ⟨a, vs, rfl, _, h1, h2⟩ := r1.tup_of
    exact ⟨a, vs, rfl, .inr (SqT.of h1), tq.lstM ok h2 h⟩
  · exact h.elim
def dStr : List D → MS → (D → MS → Prop) → Prop := fun ds mu Φ => match ds with | [.int i] => i.natAbs.log2 < 1920 ∧ Φ (.str (toString i)) mu | _ => False
theorem s_str : SimC T (fun xs H Q => ∃ i, xs = [.int i] ∧ i.natAbs.log2 < 1920 ∧ Q (.str (toString i)) H) dStr := fun W xs us Φ Q ok r h tq => by
  unfold dStr at h
  split at h
  · obtain ⟨v, rfl, r1⟩ := r.one_of
    exact ⟨_, by rw [r1.int_of], h.1, tq W _ _ (.refl W) ok .str h.2⟩
  · exact h.elim
def dAll : List D → MS → (D → MS → Prop) → Prop := fun ds mu Φ => match ds with | [.lst xs] => ∃ bs : List Bool, xs = bs.map D.bl ∧ Φ (.bl (bs.all id)) mu | _ => False
def dAny : List D → MS → (D → MS → Prop) → Prop := fun ds mu Φ => match ds with | [.lst xs] => ∃ bs : List Bool, xs = bs.map D.bl ∧ Φ (.bl (bs.any id)) mu | _ => False
theorem s_all {K : PySem.W.Frag} : SimC T (rAll K) dAll := fun W xs us Φ Q ok r h tq => by
  unfold dAll at h
  split at h
  · obtain ⟨v, rfl, r1⟩ := r.one_of
    obtain ⟨bs, rfl, h⟩ := h
    obtain ⟨a, vs, rfl, _, h1, h2⟩ := r1.lst_of
    rw [h2.bls] at h1
    exact ⟨a, bs, rfl, SqL.of h1, tq W _ _ (.refl W) ok .bl h⟩
  · exact h.elim
theorem s_any {K : PySem.W.Frag} : SimC T (rAny K) dAny := fun W xs us Φ Q ok r h tq => by
  unfold dAny at h
  split at h
  · obtain ⟨v, rfl, r1⟩ := r.one_of
    obtain ⟨bs, rfl, h⟩ := h
    obtain ⟨a, vs, rfl, _, h1, h2⟩ := r1.lst_of
    rw [h2.bls] at h1
    exact ⟨a, bs, rfl, SqL.of h1, tq W _ _ (.refl W) ok .bl h⟩
  · exact h.elim

/-! ### subscripts -/
def dIx : DR := fun x y mu Φ => match x, y with
  | .tup xs, .int i => (match atI xs i with | some d => Φ d mu | none => False)
  | .lst xs, .int i => (match atI xs i with | some d => Φ d mu | none => False)
  | .loc k, .int i => (match mu[k]? with | some (.lst xs) => (match atI xs i with | some d => Φ d mu | none => False) | _ => False)
  | .str z, .int i => z.length ≤ 100000 ∧ (match atI z.cps.toList i with | some c => Φ (.str ⟨#[c]⟩) mu | none => False)
  | _, _ => False
theorem atI_rep {W : Wd} {xs : List D} {vs : List V} {i : Int} {d : D} (r : RepL W xs vs) (h : atI xs i = some d) : ∃ v, atI vs i = some v ∧ Rep W d v := by
  unfold atI at h ⊢
  rw [r.length]
  cases q : ixN xs.length i with
  | none => rw [q] at h; cases h
  | some j =>
    rw [q] at h
    exact r.get h
theorem s_ix {K : PySem.W.Frag} : SimR T (rIx K) dIx := fun W x y u v Φ Q ok rx ry h tq => by
  unfold dIx at h
  split at h
  · rename_i xs i
    cases q : atI xs i with
    | none => rw [q] at h; exact h.elim
    | some d =>
      rw [q] at h
      obtain ⟨a, vs, rfl, _, h1, h2⟩ := rx.tup_of
      obtain ⟨z, e1, e2⟩ := atI_rep h2 q
      exact .inr (.inl ⟨a, vs, i, z, rfl, ry.int_of, SqT.of h1, e1, tq W _ _ (.refl W) ok e2 h⟩)
  · rename_i xs i
    cases q : atI xs i with
    | none => rw [q] at h; exact h.elim
    | some d =>
      rw [q] at h
      obtain ⟨a, vs, rfl, _, h1, h2⟩ := rx.lst_of
      obtain ⟨z, e1, e2⟩ := atI_rep h2 q
      exact .inl ⟨a, vs, i, z, rfl, ry.int_of, SqL.of h1, e1, tq W _ _ (.refl W) ok e2 h⟩
  · rename_i k i
    obtain ⟨a, ha, rfl⟩ := rx.loc_of
    cases q : W.mu[k]? with
    | none => rw [q] at h; exact h.elim
    | some m =>
      rw [q] at h
      cases m with
      | lst xs =>
        obtain ⟨vs, h1, h2⟩ := ok.ob k a _ ha q
        dsimp only at h
        cases q2 : atI xs i with
        | none => rw [q2] at h; exact h.elim
        | some d =>
          rw [q2] at h
          obtain ⟨z, e1, e2⟩ := atI_rep h2 q2
          exact .inl ⟨a, vs, i, z, rfl, ry.int_of, SqL.of h1, e1, tq W _ _ (.refl W) ok e2 h⟩
      | _ => exact h.elim
  · rename_i z i
    obtain ⟨hz, h⟩ := h
    cases q : atI z.cps.toList i with
    | none => rw [q] at h; exact h.elim
    | some c =>
      rw [q] at h
      exact .inr (.inr ⟨z, i, c, rx.str_of, ry.int_of, sz5 hz, q, tq W _ _ (.refl W) ok .str h⟩)
  · exact h.elim
def cutD (xs : List D) (lo hi : Option Int) : List D := (xs.drop (HT.sIx xs.length 0 lo)).take (HT.sIx xs.length xs.length hi - HT.sIx xs.length 0 lo)
theorem cut_rep {W : Wd} {xs : List D} {vs : List V} (r : RepL W xs vs) (lo hi : Option Int) : RepL W (cutD xs lo hi) (cutV vs lo hi) := by
  unfold cutD cutV
  rw [r.length]
  exact (r.drop _).take _
def dSl : D → Option Int → Option Int → MS → (D → MS → Prop) → Prop := fun x lo hi mu Φ => match x with
  | .lst xs => Φ (.lst (cutD xs lo hi)) mu
  | .tup xs => Φ (.tup (cutD xs lo hi)) mu
  | .str z => z.length ≤ 100000 ∧ Φ (.str (cutS z lo hi)) mu
  | .loc k => (match mu[k]? with | some (.lst xs) => Φ (.lst (cutD xs lo hi)) mu | _ => False)
  | _ => False
theorem sl_any : SlR X (fun x lo hi H Q => rSlL X.K x lo hi H Q ∨ rSlA X.K x lo hi H Q ∨ rSlS x lo hi H Q) := sl_list.or (sl_tupA.or sl_str)
theorem s_sl {K : PySem.W.Frag} : SimSl T (fun x lo hi H Q => rSlL K x lo hi H Q ∨ rSlA K x lo hi H Q ∨ rSlS x lo hi H Q) dSl := fun W x u lo hi Φ Q ok rx h tq => by
  cases x <;> try exact h.elim
  · rename_i z
    exact .inr (.inr ⟨z, rx.str_of, sz5 h.1, tq W _ _ (.refl W) ok .str h.2⟩)
  · rename_i k
    obtain ⟨a, ha, rfl⟩ := rx.loc_of
    unfold dSl at h
    dsimp only at h
    cases q : W.mu[k]? with
    | none => rw [q] at h; exact h.elim
    | some m =>
      rw [q] at h
      cases m with
      | lst xs =>
        obtain ⟨vs, h1, h2⟩ := ok.ob k a _ ha q
        exact .inl ⟨a, vs, rfl, SqL.of h1, tq.lst ok (cut_rep h2 lo hi) h⟩
      | _ => exact h.elim
  · rename_i xs
    obtain ⟨a, vs, rfl, _, h1, h2⟩ := rx.tup_of
    refine .inr (.inl ⟨a, vs, rfl, SqT.of h1, fun hw => tq W _ _ (.refl W) ok rx ?_, fun _ => tq.tup ok (cut_rep h2 lo hi) h⟩)
    have e : cutD xs lo hi = xs := by
      unfold cutD
      rw [← h2.length, hw.1, hw.2, Nat.sub_zero, List.drop_zero, h2.length, List.take_length]
    have h : Φ (.tup (cutD xs lo hi)) W.mu := h
    rw [e] at h
    exact h
  · rename_i xs
    obtain ⟨a, vs, rfl, _, h1, h2⟩ := rx.lst_of
    exact .inl ⟨a, vs, rfl, SqL.of h1, tq.lst ok (cut_rep h2 lo hi) h⟩
end
end DL
set_option maxHeartbeats 4000000
/-! DX1: raise. -/
namespace DL
open PySem PySem.Spec PyProof.Rows L2
/-- the class that a name of the module means -/
def cl (mg : Str → Option Value) (x : Str) : Value := (mg x).getD .none
abbrev bmV : List Value := [Value.type "ValueError", Value.type "Exception", Value.type "BaseException", Value.type "object"]
/-- a class over ValueError without an __init__ -/
structure ExF (K : PySem.W.Frag) (mg : Str → Option Value) (x : Str) : Prop where
  ex : ∃ C : Addr, mg x = some (.ref C) ∧ PySem.W.excIn K C bmV "ValueError.__new__" = true ∧ PySem.W.keepIn K (.ref C) = true ∧ PySem.W.subIn K (.ref C) (.type "BaseException") = some true ∧ PySem.W.typeIn K (.ref C) = some (.type "type")
def wRaise (c : Value) : DWS := fun _ mu _ Ξ => Ξ c [] mu
section
variable {X : Cx} {T : List (Addr × Str)} {E : XK}
theorem ds_raise {x m : Str} {j : Nat} {p p2 pos pos' : Pos} (F : ExF X.K X.mg x) (hc : X.calm = true) (tk : L2N.Takes X fun cls d _ H => E cls d H) (hg : Gl X x) (hdb : (x == ("__debug__" : Str)) = false := by decide) :
    PS X (.Raise (some (.Call (.Name x p) [.Constant (.str m) j p2] [] pos)) none pos') (tOfS T E (wRaise (cl X.mg x))) := by
  obtain ⟨C, h1, h2, h3, h4, h5⟩ := F.ex
  have ec : cl X.mg x = .ref C := by unfold cl; rw [h1]; rfl
  rw [ec]
  refine (L2N.ps_raise hc tk (L2N.pmk_own (p := p) (p2 := p2) (pos := pos) (j := j) (m := m) PySem.F.excBase_ValueError h2 h1 h3 (raises_own h4 h5) hg hdb)).imp fun D σ H ⟨W, ρ, Δ, Ξ, e1, ok, re, hw, ts, tx⟩ => ?_
  subst e1
  exact tx W (.ref C) none [] (.refl W) ok rfl hw
end
end DL
set_option maxHeartbeats 4000000
/-! DH1: while an exception is handled: the end of a list, of a tuple, of zip; a tuple taken apart; a comprehension over zip. -/
namespace DL
open PySem PySem.Spec PyProof.Rows L2
open HotX (HotAt raiseNew_hot)
section
variable {prog : Program} {w : World} {A : Around} {E : Value → Shared → Prop} {s : Shared}
theorem _root_.HotX.HotAt.keep {A : Around} {x1 : Addr} {h h' : Heap} (t : HotAt A x1 h) (k : ∀ o, h.get? x1 = some o → h'.get? x1 = some o) : HotAt A x1 h' := by
  obtain ⟨hh, o, vs, e, d, c⟩ := t
  exact ⟨hh, o, vs, k o e, d, c⟩
/-- the handled exception has a third field that is None -/
theorem hot_ne {x1 a : Addr} {h : Heap} {o : Obj} (t : HotAt A x1 h) (e : h.get? a = some o) (n : ∀ vs : Array Value, o.data = .fields vs → vs[2]? ≠ some .none) : x1 ≠ a := fun z => by
  obtain ⟨hh, o', vs, e', d, c⟩ := t
  rw [z, e] at e'
  cases e'
  exact n vs d c
theorem hot_lt {x1 : Addr} {h : Heap} (t : HotAt A x1 h) : x1 < h.objs.size := by
  obtain ⟨_, o, _, e, _⟩ := t
  exact Heap.lt_size e
theorem stop_hot {α : Type} {x1 : Addr} {h : Heap} {it : Addr} {Q : α → Shared → Prop} (hot : HotAt A x1 s.heap) (sb : Heap.ExtBut it s.heap h) (ni : x1 ≠ it)
    (hE : ∀ h' e, Heap.ExtBut it s.heap h' → (∃ o, h'.get? e = some o ∧ o.cls = .type "StopIteration") → E (.ref e) { s with heap := h' }) :
    wpAny (model prog w) A (newExc (.type "StopIteration") []) (fun a s' => wpAny (model prog w) A (raiseNew a : Sem α) Q E s') E { s with heap := h } := by
  simp only [newExc, newTuple]
  refine wpAny_bind (wpAny_newObj_type ?_ (by size_fits))
  refine wpAny_bind (m := firstArgMember _ _) (wpAny_of_eq (a := Value.none) (by first | rfl | (simp only [firstArgMember]; rfl)) ?_)
  refine wpAny_newObj_type ?_ (by size_fits)
  have hot2 := hot.keep (h' := h) fun o e => sb x1 o ni e
  have k2 : ∀ {o1 o2 : Obj} {b : Addr} {o : Obj}, h.get? b = some o → ((h.push o1).push o2).get? b = some o := fun e => Heap.get?_push_of_some _ (Heap.get?_push_of_some _ e)
  refine raiseNew_hot (hot2.keep fun o e => k2 e) (Nat.ne_of_lt (Nat.lt_of_lt_of_le (hot_lt hot2) (by simp only [Heap.size_push]; omega))) (Heap.get?_push_size _ rfl) rfl (by first | (simp; done) | (simp; omega) | (simp only [Array.size_append]; simp; omega)) ?_
  refine hE _ _ (fun b o hb e => ?_) ⟨_, Heap.get?_update_self _ (Heap.get?_push_size _ rfl) rfl, rfl⟩
  have e2 := sb b o hb e
  rw [Heap.get?_update_other _ _ (Nat.ne_of_gt (Nat.lt_of_lt_of_le (Heap.lt_size e2) (by simp only [Heap.size_push]; omega)))]
  exact k2 e2

theorem nextOf_list_hot {it l x1 : Addr} {i : Nat} {items} {Q : Value → Shared → Prop} (hot : HotAt A x1 s.heap)
    (hit : s.heap.IsListIter it l i) (hl : s.heap.IsList l items) (hx : items[i]? = none)
    (hE : ∀ h' e, Heap.ExtBut it s.heap h' → (∃ o, h'.get? e = some o ∧ o.cls = .type "StopIteration") → E (.ref e) { s with heap := h' }) :
    wpAny (model prog w) A (Builtin.SmallTypes.nextOf (.ref it)) Q E s := by
  obtain ⟨o, ho, hc, hd⟩ := id hit
  obtain ⟨ol, hol, _, nl, hdl⟩ := hl
  have ni : x1 ≠ it := hot_ne hot ho fun vs q => by rw [hd] at q; cases q; simp
  unfold Builtin.SmallTypes.nextOf
  refine wpAny_bind (wpAny_callSpecial?_slot (name := Str.ofString "__next__") hit.typeIs slot_listiter_next
    (wpAny_call_entry slot_listiter_next hit.typeIs entry_listiter_next ?_ (args_listiter_next _)))
  show wpAny _ _ (field (.ref it) 0 >>= _) _ _ s
  refine wpAny_bind (wpAny_field ho hd (x := .ref l) rfl ?_)
  show wpAny _ _ (if (Value.ref l == Value.none) = true then _ else _) _ _ s
  rw [if_neg (show ¬ ((Value.ref l == Value.none) = true) from Bool.false_ne_true)]
  show wpAny _ _ (field (.ref it) 1 >>= _) _ _ s
  refine wpAny_bind (wpAny_field ho hd (x := .int i 0) rfl ?_)
  show wpAny _ _ (seqItems? (.ref l) >>= _) _ _ s
  refine wpAny_bind (wpAny_seqItems hol hdl ?_)
  simp only [Int.toNat_natCast, hx]
  refine wpAny_bind (wpAny_rule (wpAny_bind (wpAny_setField ho hd (by simp) ?_)))
  refine wpAny_bind ?_
  exact stop_hot (it := it) (A := A.in1) hot (Heap.SameBut.update ..).extBut ni hE
theorem next_tuple_hot {it t x1 : Addr} {i : Nat} {items} {Q : Option Value → Shared → Prop} (hot : HotAt A x1 s.heap)
    (hit : PyProof.Rows.IsTupIter s.heap it t i) (ht : PyProof.Rows.IsTup s.heap t items) (hx : items[i]? = none)
    (hQ : ∀ h', Heap.ExtBut it s.heap h' → Q none { s with heap := h' }) : wpAny (model prog w) A (pyNext (.ref it)) Q E s := by
  obtain ⟨o, ho, hc, hd⟩ := id hit
  obtain ⟨ol, hol, _, nl, hdl⟩ := ht
  have ni : x1 ≠ it := hot_ne hot ho fun vs q => by rw [hd] at q; cases q; simp
  unfold pyNext
  refine wpAny_bind (wpAny_attempt (wpAny_callSpecial?_slot (name := Str.ofString "__next__") hit.typeIs slot_tupleiter_next
    (wpAny_call_entry slot_tupleiter_next hit.typeIs entry_tupleiter_next ?_ (args_tupleiter_next _))))
  show wpAny _ _ (field (.ref it) 0 >>= _) _ _ s
  refine wpAny_bind (wpAny_field ho hd (x := .ref t) rfl ?_)
  show wpAny _ _ (if (Value.ref t == Value.none) = true then _ else _) _ _ s
  rw [if_neg (show ¬ ((Value.ref t == Value.none) = true) from Bool.false_ne_true)]
  show wpAny _ _ (field (.ref it) 1 >>= _) _ _ s
  refine wpAny_bind (wpAny_field ho hd (x := .int i 0) rfl ?_)
  show wpAny _ _ (seqItems? (.ref t) >>= _) _ _ s
  refine wpAny_bind (wpAny_seqItems hol hdl ?_)
  simp only [Int.toNat_natCast, hx]
  refine wpAny_bind (wpAny_rule (wpAny_bind (wpAny_setField ho hd (by simp) ?_)))
  refine wpAny_bind ?_
  refine stop_hot (it := it) (A := A.in1) hot (Heap.SameBut.update ..).extBut ni fun h' e x he => ?_
  obtain ⟨oe, e1, e2⟩ := he
  refine wpAny_bind (wpAny_isInstance (T := "StopIteration") (b := true) ⟨oe, e1, e2⟩ isSubtype_stop ?_)
  exact wpAny_pure (hQ _ x)
theorem unpackItems_hot {t x1 : Addr} {items : Array Value} {Q : List Value → Shared → Prop} (hot : HotAt A x1 s.heap) (ht : PyProof.Rows.IsTup s.heap t items)
    (hQ : ∀ h', Heap.ExtBut s.heap.objs.size s.heap h' → Q items.toList { s with heap := h' }) : wpAny (model prog w) A (unpackItems (.ref t) items.size none) Q E s := by
  have hlt : t ≠ s.heap.objs.size := by obtain ⟨o, ho, _⟩ := ht; exact Nat.ne_of_lt (Heap.lt_size ho)
  unfold unpackItems
  refine wpAny_bind ?_
  · unfold notIterableAtAll
    refine wpAny_bind (wpAny_specialOf ht.typeIs slot_tuple_iter.lookup ?_)
    refine wpAny_pure ?_
    simp only [Bool.false_eq_true, if_false]
    refine wpAny_bind (wpAny_holding (iter_tuple ht ?_))
    refine wpAny_bind (wpAny_holding (draw_tuple hlt items.size 0 _ _ ⟨_, Heap.get?_push_size _ rfl, rfl, rfl⟩ (ht.push _) (by omega) fun h₁ hit₁ hs₁ => ?_))
    have hall : List.take items.size (List.drop 0 items.toList) = items.toList := by
      rw [List.drop_zero]; exact List.take_of_length_le (by simp)
    rw [hall]
    rw [if_neg (by simp)]
    have ht₁ : PyProof.Rows.IsTup h₁ t items := (ht.push _).extBut hs₁.extBut hlt
    have hot₁ : HotAt A x1 h₁ := hot.keep fun o e => hs₁.extBut _ _ (Nat.ne_of_lt (Heap.lt_size e)) (Heap.get?_push_of_some _ e)
    refine wpAny_bind (wpAny_holding (next_tuple_hot hot₁ hit₁ ht₁ (by simp) fun h₂ he₂ => ?_))
    simp only [Option.isSome_none, Bool.false_eq_true, if_false]
    refine wpAny_pure (hQ h₂ fun b o hb e => he₂ b o hb (hs₁.extBut b o hb (Heap.get?_push_of_some _ e)))
theorem unpack_hot {t x1 : Addr} {items : Array Value} {targets : List (Bool × (Value → Sem Unit))} {Q : Unit → Shared → Prop} (hot : HotAt A x1 s.heap) (ht : PyProof.Rows.IsTup s.heap t items)
    (hn : targets.length = items.size) (hstar : targets.findIdx? (·.1) = none)
    (h : ∀ h', Heap.ExtBut s.heap.objs.size s.heap h' → wpAny (model prog w) A (assignInOrder (targets.map (·.2)) items.toList) Q E { s with heap := h' }) :
    wpAny (model prog w) A (unpack (.ref t) targets) Q E s := by
  unfold unpack
  rw [hn, hstar]
  exact wpAny_bind (wpAny_holding (unpackItems_hot hot ht h))
theorem zip_next_hot {z TI TO i1 i2 l1 l2 x1 : Addr} {k1 k2 : Nat} {xs ys : Array Value} {a b : Value} {Q : Fin → Shared → Prop} (hot : HotAt A x1 s.heap) (D : ZipApart z TI TO i1 i2 l1 l2)
    (hz : IsZip s.heap z TI TO .none) (hTI : IsPair s.heap TI (.ref i1) (.ref i2)) (hTO : IsPair s.heap TO a b)
    (h1 : s.heap.IsListIter i1 l1 k1) (h2 : s.heap.IsListIter i2 l2 k2) (hl1 : s.heap.IsList l1 xs) (hl2 : s.heap.IsList l2 ys) (hend : xs[k1]? = none ∨ ys[k2]? = none)
    (hE : ∀ h' e, (∀ c o, c ≠ z → c ≠ TO → c ≠ i1 → c ≠ i2 → s.heap.get? c = some o → h'.get? c = some o) → (∃ o, h'.get? e = some o ∧ o.cls = .type "StopIteration") → E (.ref e) { s with heap := h' }) :
    wpAny (model prog w) A (Builtin.«zip.__next__» ⟨[.ref z], []⟩) Q E s := by
  have nz : x1 ≠ z := hot_ne hot hz fun vs q => by cases q; simp
  have nTO : x1 ≠ TO := hot_ne hot hTO fun vs q => by cases q
  have ni1 : x1 ≠ i1 := by obtain ⟨o, ho, _, hd⟩ := h1; exact hot_ne hot ho fun vs q => by rw [hd] at q; cases q; simp
  show wpAny _ _ (field (.ref z) 2 >>= _) _ _ _
  refine wpAny_bind (wpAny_field hz rfl (x := .bool false) rfl ?_)
  show wpAny _ _ (field (.ref z) 3 >>= _) _ _ _
  refine wpAny_bind (wpAny_field hz rfl (x := .ref TI) rfl ?_)
  refine wpAny_bind (wpAny_seqItems hTI rfl ?_)
  show wpAny _ _ (Builtin.SmallTypes.ownedTupleIsFree (.ref z) >>= _) _ _ _
  refine wpAny_bind ?_
  unfold Builtin.SmallTypes.ownedTupleIsFree
  refine wpAny_bind (wpAny_field hz rfl (x := .none) rfl (wpAny_pure ?_))
  simp only [if_true]
  refine wpAny_bind (wpAny_rule ?_)
  refine wpAny_bind (wpAny_field hz rfl (x := .ref TO) rfl ?_)
  refine wpAny_bind (wpAny_setField_rec hz (by simp) fun h₁ hz₁ hs₁ => ?_)
  replace hz₁ : IsZip h₁ z TI TO .ellipsis := hz₁
  have hot₁ : HotAt A x1 h₁ := hot.keep fun o e => hs₁.extBut _ _ nz e
  refine wpAny_bind ?_
  simp only [List.zipIdx_cons, List.zipIdx_nil, List.forIn_cons, List.forIn_nil]
  refine wpAny_bind (wpAny_bind (wpAny_onRaise ?_))
  show wpAny _ _ (Builtin.SmallTypes.nextOf (.ref i1) >>= _) _ _ _
  cases hx : xs[k1]? with
  | none =>
    refine wpAny_bind (nextOf_list_hot hot₁ (h1.extBut hs₁.extBut D.i1z) (hl1.extBut hs₁.extBut D.l1z) hx fun h₂ e hs₂ he => ?_)
    obtain ⟨oe, hoe, hce⟩ := he
    have hz₂ : IsZip h₂ z TI TO .ellipsis := hs₂ _ _ D.i1z.symm hz₁
    have hez : e ≠ z := fun x => by subst x; rw [hz₂] at hoe; cases hoe; simp at hce
    refine wpAny_setField_rec hz₂ (by simp) fun h₃ _ hs₃ => hE h₃ e (fun c o c1 _ c3 _ x => hs₃.extBut _ _ c1 (hs₂ _ _ c3 (hs₁.extBut _ _ c1 x))) ⟨oe, hs₃.extBut _ _ hez hoe, hce⟩
  | some x =>
    have hy : ys[k2]? = none := by rcases hend with h | h; rw [hx] at h; cases h; exact h
    refine wpAny_bind (wpAny_nextOf_list_item (h1.extBut hs₁.extBut D.i1z) (hl1.extBut hs₁.extBut D.l1z) hx fun h₂ h1₂ hs₂ => wpAny_pure ?_)
    have hTO₂ : IsPair h₂ TO a b := hs₂.extBut _ _ D.TOi1 (hs₁.extBut _ _ D.TOz hTO)
    refine wpAny_bind (wpAny_seqItems hTO₂ rfl ?_)
    refine wpAny_bind (wpAny_updateSeq_pair hTO₂ fun h₃ hTO₃ hs₃ => ?_)
    refine wpAny_bind (wpAny_letGo (wpAny_pure ?_))
    refine wpAny_bind (wpAny_bind (wpAny_onRaise ?_))
    have hot₃ : HotAt A x1 h₃ := hot₁.keep fun o e => hs₃.extBut _ _ nTO (hs₂.extBut _ _ ni1 e)
    show wpAny _ _ (Builtin.SmallTypes.nextOf (.ref i2) >>= _) _ _ _
    refine wpAny_bind (nextOf_list_hot hot₃ (((h2.extBut hs₁.extBut D.i2z).extBut hs₂.extBut D.i12.symm).extBut hs₃.extBut D.TOi2.symm)
      (((hl2.extBut hs₁.extBut D.l2z).extBut hs₂.extBut D.l2i1).extBut hs₃.extBut D.l2TO) hy fun h₄ e hs₄ he => ?_)
    obtain ⟨oe, hoe, hce⟩ := he
    have hz₄ : IsZip h₄ z TI TO .ellipsis := hs₄ _ _ D.i2z.symm (hs₃.extBut _ _ D.TOz.symm (hs₂.extBut _ _ D.i1z.symm hz₁))
    have hez : e ≠ z := fun x => by subst x; rw [hz₄] at hoe; cases hoe; simp at hce
    refine wpAny_setField_rec hz₄ (by simp) fun h₅ _ hs₅ => hE h₅ e (fun c o c1 c2 c3 c4 x => hs₅.extBut _ _ c1 (hs₄ _ _ c4 (hs₃.extBut _ _ c2 (hs₂.extBut _ _ c3 (hs₁.extBut _ _ c1 x))))) ⟨oe, hs₅.extBut _ _ hez hoe, hce⟩
theorem pyNext_zip_hot {z TI TO i1 i2 l1 l2 x1 : Addr} {k1 k2 : Nat} {xs ys : Array Value} {a b : Value} {Q : Option Value → Shared → Prop} (hot : HotAt A x1 s.heap) (D : ZipApart z TI TO i1 i2 l1 l2)
    (hz : IsZip s.heap z TI TO .none) (hTI : IsPair s.heap TI (.ref i1) (.ref i2)) (hTO : IsPair s.heap TO a b)
    (h1 : s.heap.IsListIter i1 l1 k1) (h2 : s.heap.IsListIter i2 l2 k2) (hl1 : s.heap.IsList l1 xs) (hl2 : s.heap.IsList l2 ys) (hend : xs[k1]? = none ∨ ys[k2]? = none)
    (hQ : ∀ h', (∀ c o, c ≠ z → c ≠ TO → c ≠ i1 → c ≠ i2 → s.heap.get? c = some o → h'.get? c = some o) → Q none { s with heap := h' }) : wpAny (model prog w) A (pyNext (.ref z)) Q E s := by
  have hT : s.TypeIs (.ref z) "zip" := ⟨_, hz, rfl⟩
  unfold pyNext
  refine wpAny_bind (wpAny_attempt (wpAny_callSpecial?_slot (name := Str.ofString "__next__") hT F.slot_zip_next
    (wpAny_call_entry F.slot_zip_next hT F.entry_zip_next (zip_next_hot (A := _) hot D hz hTI hTO h1 h2 hl1 hl2 hend fun h' e hk he => ?_) (F.args_zip_next_1 _))))
  obtain ⟨o, ho, hc⟩ := he
  refine wpAny_bind (wpAny_isInstance (T := "StopIteration") (b := true) ⟨o, ho, hc⟩ isSubtype_stop ?_)
  exact wpAny_pure (hQ _ hk)
end
end DL
set_option maxHeartbeats 4000000
/-! DH2: a comprehension over zip, a pair taken apart, while an exception is handled (the rows follow HandS.Comp and HandS.Iter, with the hot ends of DH1). -/
namespace DL
open PySem PySem.Spec PyProof.Rows L2
open HotX (HotAt)
/-- the handled exception stands in every state of the context -/
def HotS (X : Cx) : Prop := ∃ x1, ∀ (pins : List (Addr × Obj)) (σ : L2.St) (H : Hp) (s : Shared), Inv X pins σ H s → HotAt X.A x1 s.heap
theorem hotS_of {X : Cx} (c : L2H.HotC X) : HotS X := by
  obtain ⟨p, ⟨hh, v1, e1, c1⟩, hp⟩ := c
  exact ⟨p.1, fun pins σ H s I => ⟨hh, p.2, v1, (I.pin p (List.mem_append_left _ hp)).1, e1, c1⟩⟩
theorem hotS_blk {X : Cx} {pins : List (Addr × Obj)} {σ : L2.St} {H : Hp} {s : Shared} {scope : Scope} {cenv : Env} {fp : List Addr} (c : L2H.HotC X) (I : Inv X pins σ H s) (hf : ∀ b ∈ fp, FpOk X pins H b) : HotS (X.blk s H scope cenv fp) := by
  obtain ⟨p, ⟨hh, v1, e1, c1⟩, hp⟩ := c
  have P1 := I.pin p (List.mem_append_left _ hp)
  refine ⟨p.1, fun pins' σ' H' s' I' => ⟨hh, p.2, v1, ?_, e1, c1⟩⟩
  refine I'.base.keep p.1 p.2 P1.1 P1.2.1 (fun hm => ?_) (fun hm => ?_)
  · exact (List.mem_cons.mp (I.stkSub p.1 hm)).elim P1.2.2.1 P1.2.2.2.1
  · exact (hf p.1 hm).2.2.2.2.2 p (List.mem_append_left _ hp) rfl
structure TurnS (P : Program) (w : World) (K : PySem.W.Frag) (tg : Expr) (J : It) (fp : List Addr) (it : Addr) (tn : Nat → Heap → Prop) : Prop where
  mem : it ∈ fp
  obj : ∀ i h, tn i h → ∀ b ∈ fp, ∃ o, h.get? b = some o ∧ ∀ v, o.data ≠ .cell v
  keep : ∀ i h h', tn i h → (∀ b ∈ fp, ∀ o, h.get? b = some o → h'.get? b = some o) → tn i h'
  item : ∀ (X : Cx), X.prog = P → X.w = w → X.K = K → HotS X → ∀ (i : Nat) (pins : List (Addr × Obj)) (s : Shared) (σ : L2.St) (H : Hp) (E : Value → Shared → Prop), Inv X pins σ H s → (∀ b ∈ fp, FpOk X pins H b) → tn i s.heap → J.go i H →
    wpAny (model P w) X.A (pyNext (.ref it)) (fun r s1 => ∃ u, r = some u ∧
      wpAny (model P w) X.A (letOwnedTupleGo tg (.ref it) u) (fun _ s2 => ∃ x H', Inv X pins σ H' s2 ∧ RelV x u ∧ J.yld i H x H' ∧ tn (i + 1) s2.heap ∧ ∀ b ∈ fp, H' b = none) E s1) E s
  done : ∀ (X : Cx), X.prog = P → X.w = w → X.K = K → HotS X → ∀ (i : Nat) (pins : List (Addr × Obj)) (s : Shared) (σ : L2.St) (H : Hp) (E : Value → Shared → Prop), Inv X pins σ H s → (∀ b ∈ fp, FpOk X pins H b) → tn i s.heap → J.stop i H →
    wpAny (model P w) X.A (pyNext (.ref it)) (fun r s1 => r = none ∧ Inv X pins σ H s1) E s
  self : ∀ (A : Around) (i : Nat) (s : Shared) (Q : Value → Shared → Prop) (E : Value → Shared → Prop), tn i s.heap → Q (.ref it) s → wpAny (model P w) A (pyIter (.ref it)) Q E s
def PIES (X : Cx) (pins : List (Addr × Obj)) (σ : L2.St) (tg : Expr) (R : It → Hp → Prop) (itv : Value) (s2 : Shared) : Prop :=
  ∃ (it : Addr) (fp : List Addr) (tn : Nat → Heap → Prop) (J : It) (H' : Hp), itv = .ref it ∧ Inv X pins σ H' s2 ∧ TurnS X.prog X.w X.K tg J fp it tn ∧ tn 0 s2.heap ∧ (∀ b ∈ fp, FpOk X pins H' b) ∧ R J H'
structure PIS (X : Cx) (tg iter : Expr) (wi : TI) : Prop where
  run : ∀ (pins : List (Addr × Obj)) (s : Shared) (σ : L2.St) (H : Hp) (R : It → Hp → Prop), Inv X pins σ H s → wi σ H R →
    wpAny (model X.prog X.w) X.A (eval iter X.env) (fun v s1 => wpAny (model X.prog X.w) X.A (pyIter v) (PIES X pins σ tg R) X.xe s1) X.xe s
theorem turn_zipS {P : Program} {w : World} {K : PySem.W.Frag} {elts : List Expr} {kk : Nat} {tpos : Pos} {a b z TI TO i1 i2 : Addr} (D : ZipApart z TI TO i1 i2 a b) :
    TurnS P w K (.Tuple elts kk tpos) (Itz K a b) [z, TI, TO, i1, i2] z (fun i h => IsZip h z TI TO .none ∧ IsPair h TI (.ref i1) (.ref i2) ∧ (∃ x y, IsPair h TO x y) ∧ h.IsListIter i1 a i ∧ h.IsListIter i2 b i) where
  mem := by simp
  obj := fun i h st c hc => by
    obtain ⟨hz, hTI, ⟨x, y, hTO⟩, ⟨o1, e1, _, d1⟩, ⟨o2, e2, _, d2⟩⟩ := st
    have e' : c = z ∨ c = TI ∨ c = TO ∨ c = i1 ∨ c = i2 := by simpa using hc
    rcases e' with q | q | q | q | q
    · rw [q]; exact ⟨_, hz, fun v q => nomatch q⟩
    · rw [q]; exact ⟨_, hTI, fun v q => nomatch q⟩
    · rw [q]; exact ⟨_, hTO, fun v q => nomatch q⟩
    · rw [q]; exact ⟨o1, e1, fun v q => by rw [d1] at q; cases q⟩
    · rw [q]; exact ⟨o2, e2, fun v q => by rw [d2] at q; cases q⟩
  keep := fun i h h' st k => by
    obtain ⟨hz, hTI, ⟨x, y, hTO⟩, h1, h2⟩ := st
    exact ⟨k z (by simp) _ hz, k TI (by simp) _ hTI, ⟨x, y, k TO (by simp) _ hTO⟩, h1.at fun o q => k i1 (by simp) o q, h2.at fun o q => k i2 (by simp) o q⟩
  item := by
    intro X hP hw hK hc i pins s σ H E I hf st hg
    subst hP hw hK
    obtain ⟨hz, hTI, ⟨x0, y0, hTO⟩, h1, h2⟩ := st
    obtain ⟨xs, ys, x, y, hqx, hqy, hx, hy⟩ := hg
    obtain ⟨its, rv, p, _⟩ := I.list hqx
    obtain ⟨its2, rv2, p2, _⟩ := I.list hqy
    obtain ⟨u, hu, ru⟩ := rv.get hx
    obtain ⟨u2, hu2, ru2⟩ := rv2.get hy
    have hzl : z < s.heap.objs.size := Heap.lt_size hz
    refine wpAny_pyNext_zip_item D hz hTI hTO h1 h2 p.isList p2.isList (x := u) (y := u2) (by simpa using hu) (by simpa using hu2) fun h' z' TO' h1' h2' hT hsz hk => ?_
    refine ⟨_, rfl, wpAny_letOwnedTupleGo_zip (s := { s with heap := h' }) z' fun h'' z'' sb => ?_⟩
    have hT2 : h''.get? s.heap.objs.size = some { cls := .type "tuple", data := .seq #[u, u2] } := (sb.2 _ (Nat.ne_of_gt hzl)).trans hT
    have new : ObjOk X.prog X.w (upd H s.heap.objs.size (.tup [x, y])) h'' s.heap.objs.size (.tup [x, y]) :=
      ⟨by show 2 ≤ sizeLine; decide, [u, u2], .cons ru (.cons ru2 .nil), ⟨_, hT2, rfl, _, rfl⟩⟩
    have I1 : Inv X pins σ (upd H s.heap.objs.size (.tup [x, y])) { s with heap := h'' } :=
      I.turnedNew (t' := s.toks) (ch := [z, TI, TO, i1, i2]) (fun c o hb q => (sb.2 c (fun q' => hb (by simp [q']))).trans (hk c o (fun q' => hb (by simp [q'])) (fun q' => hb (by simp [q'])) (fun q' => hb (by simp [q'])) (fun q' => hb (by simp [q'])) q)) hf (Nat.le_refl _) new
    refine ⟨.ref s.heap.objs.size, _, I1, rfl, ⟨_, x, y, rfl, I.hok.fresh (Nat.le_refl _), rfl, fun l hl => by rw [I.list_inj hl hqx]; exact hx, fun l hl => by rw [I.list_inj hl hqy]; exact hy⟩, ⟨z'', ?_, ⟨u, u2, ?_⟩, ?_, ?_⟩, fun c hcm => ?_⟩
    · exact (sb.2 _ D.TIz).trans (hk _ _ D.TIz D.TITO D.TIi1 D.TIi2 hTI)
    · exact (sb.2 _ D.TOz).trans TO'
    · exact h1'.at fun o q => (sb.2 _ D.i1z).trans q
    · exact h2'.at fun o q => (sb.2 _ D.i2z).trans q
    · have hlt : c < s.heap.objs.size := by
        have e' : c = z ∨ c = TI ∨ c = TO ∨ c = i1 ∨ c = i2 := by simpa using hcm
        rcases e' with q | q | q | q | q
        · rw [q]; exact hzl
        · rw [q]; exact Heap.lt_size hTI
        · rw [q]; exact Heap.lt_size hTO
        · rw [q]; obtain ⟨_, e1, _⟩ := h1; exact Heap.lt_size e1
        · rw [q]; obtain ⟨_, e2, _⟩ := h2; exact Heap.lt_size e2
      rw [upd_ne (Nat.ne_of_lt hlt)]
      exact (hf c hcm).1
  done := by
    intro X hP hw hK hc i pins s σ H E I hf st hg
    subst hP hw hK
    obtain ⟨hz, hTI, ⟨x0, y0, hTO⟩, h1, h2⟩ := st
    obtain ⟨xs, ys, hqx, hqy, hend⟩ := hg
    obtain ⟨its, rv, p, _⟩ := I.list hqx
    obtain ⟨its2, rv2, p2, _⟩ := I.list hqy
    have l1 := rv.length
    have l2 := rv2.length
    have he : its.toArray[i]? = none ∨ its2.toArray[i]? = none := by
      rcases hend with q | q
      · exact .inl (by simp; omega)
      · exact .inr (by simp; omega)
    obtain ⟨x1, hot⟩ := hc
    exact pyNext_zip_hot (hot _ _ _ _ I) D hz hTI hTO h1 h2 p.isList p2.isList he fun h' hk => ⟨rfl, I.turnedL (t' := s.toks) (ch := [z, TI, TO, i1, i2]) (fun c o hb q =>
      hk c o (fun q' => hb (by simp [q'])) (fun q' => hb (by simp [q'])) (fun q' => hb (by simp [q'])) (fun q' => hb (by simp [q'])) q) hf⟩
  self := fun A i s Q E st h => wpAny_pyIter_zip st.1 h
theorem pi_zipS {X : Cx} {e e2 : Expr} {ta : TA} {p pos tpos : Pos} {elts : List Expr} {kk : Nat} (hg : Gl X "zip") (hm : X.mg "zip" = none) (ha : PA X [e, e2] ta)
    (hs : starEach [e, e2] X.env = (false, eval e X.env) :: starEach [e2] X.env := by rfl) (hpl : (backTo pos (starEach [e2] X.env)).any (·.1) = false := by rfl) :
    PIS X (.Tuple elts kk tpos) (.Call (.Name "zip" p) [e, e2] [] pos) (iZip X.K ta) := by
  refine ⟨fun pins s σ H R I h => ?_⟩
  refine Call_ (ld_blt I hg hm PyProof.Rows.boot_zip (PyProof.Rows.callWith_type1 (thn (ha.run pos pins s σ H _ I h) fun us s1 ⟨vs, H1, I1, r1, q1⟩ => ?_) hs hpl))
  obtain ⟨a, b, xs, ys, ex, hqx, hqy, q⟩ := q1
  subst ex
  cases r1 with
  | cons r rr =>
    cases rr with
    | cons r' rr =>
      cases rr
      cases r
      cases r'
      obtain ⟨its, rv, p1, _⟩ := I1.list hqx
      obtain ⟨its2, rv2, p2, _⟩ := I1.list hqy
      have la : a < s1.heap.objs.size := p1.lt
      have lb : b < s1.heap.objs.size := p2.lt
      refine call_zip_2 p1.isList p2.isList fun h' hz hTI hTO h1 h2 hsz hk => wpAny_pyIter_zip hz ?_
      have I2 : Inv X pins σ H1 { s1 with heap := h' } := I1.kept (t' := s1.toks) hk
      refine ⟨s1.heap.objs.size + 4, [s1.heap.objs.size + 4, s1.heap.objs.size + 2, s1.heap.objs.size + 3, s1.heap.objs.size, s1.heap.objs.size + 1], _, _, H1, rfl, I2, turn_zipS (PySem.W.ktu_apart s1.heap.objs.size a b la lb), ⟨hz, hTI, ⟨_, _, hTO⟩, h1, h2⟩, fun c hcm => ?_, q⟩
      have e' : c = s1.heap.objs.size + 4 ∨ c = s1.heap.objs.size + 2 ∨ c = s1.heap.objs.size + 3 ∨ c = s1.heap.objs.size ∨ c = s1.heap.objs.size + 1 := by simpa using hcm
      have hle : s1.heap.objs.size ≤ c := by
        rcases e' with z | z | z | z | z
        · rw [z]; exact Nat.le_add_right _ _
        · rw [z]; exact Nat.le_add_right _ _
        · rw [z]; exact Nat.le_add_right _ _
        · rw [z]; exact Nat.le_refl _
        · rw [z]; exact Nat.le_add_right _ _
      exact I1.fpOk hle (I1.hok.fresh hle)
section
variable {X : Cx}
theorem lc_coreS {pins : List (Addr × Obj)} {s : Shared} {σ : L2.St} {H : Hp} {Q : VK} {elt tg iter : Expr} {ifs : List Expr} {scope : Scope} {own : List (Str × Nat)} {pos pos' : Pos} {wi : TI} {g : TG} {tt : TT} {te : TE} {use : Option (Value → Sem Unit)} {Qf : Value → Shared → Prop}
    (hc : L2H.HotC X) (hN : X.N.Nodup) (I : Inv X pins σ H s) (hi : PIS X tg iter wi) (ok : BlkOk X.N X.env.scope scope own)
    (hg : ∀ (s : Shared) (H : Hp) (C : Addr) (cl : List (Str × Addr)) (fp : List Addr), HotS (X.blk s H scope (compEnvC scope cl C X.env) fp) → PG (X.blk s H scope (compEnvC scope cl C X.env) fp) tg g) (ht : ∀ (s : Shared) (H : Hp) (C : Addr) (cl : List (Str × Addr)) (fp : List Addr), PTs (X.blk s H scope (compEnvC scope cl C X.env) fp) ifs tt)
    (he : ∀ (s : Shared) (H : Hp) (C : Addr) (cl : List (Str × Addr)) (fp : List Addr), PE (X.blk s H scope (compEnvC scope cl C X.env) fp) elt te) (hs : ∀ x, foldedSetIterable iter X.env x = pure x)
    (h : tLc wi g tt te (own.map (·.2)) σ H Q)
    (hRR : ∀ D C s' m H', Inv X pins σ H' s' → Q (.ref D) H' → s'.heap.Ns C m → FpOk X pins H' C → compPost (model X.prog X.w) X.A X.xe use Qf (.ref D) C (.ok .next) s') :
    wpAny (model X.prog X.w) X.A (comprehension (.ListComp elt [⟨tg, iter, ifs, 0⟩] scope pos) scope X.env pos' (newList []) false (eval iter X.env) use) Qf X.xe s := by
  have hfree : ∀ y ∈ scope.names, y.2 = .free → ∃ c, X.env.cells.lookup y.1 = some c := fun y hy e => by
    rcases ok.free y hy e with k | k
    · exact I.ok.has _ (.inl k)
    · exact I.ok.has _ (.inr k)
  refine wpAny_comprehension_free (use := use) rfl hs (closure_ok hfree) ok.kind (fun y hy e => by rw [ok.uniq y hy, e])
    (thn (hi.run pins s σ H _ I h) fun xv s1 hx => thn hx fun itv s2 h2 => ?_)
  obtain ⟨it, fp, tn, J, H2, e, I2, T, st2, f2, q⟩ := h2
  subst e
  refine wpAny_newObj_type (newEnv_comp ?_) (by show 0 ≤ sizeLine; decide)
  generalize hD : s2.heap.objs.size = D
  have hDn : H2 D = none := I2.hok.fresh (Nat.le_of_eq hD)
  obtain ⟨W, ⟨m0, w0⟩, turn⟩ := q D hDn
  -- the new list
  generalize hs3 : ({ s2 with heap := s2.heap.push { cls := .type "list", data := .seq ([] : List Value).toArray } } : Shared) = s3
  have I3 : Inv X pins σ (upd H2 D (.lst [])) s3 := by
    rw [← hs3]
    refine I2.laid (t' := s2.toks) (fun b o e => Heap.get?_push_of_some _ e) (Nat.le_of_eq hD) ⟨Nat.zero_le _, [], 0, .nil, ?_⟩
    rw [← hD]
    exact Heap.get?_push_size _ rfl
  have h3 : s3.heap = s2.heap.push { cls := .type "list", data := .seq ([] : List Value).toArray } := by rw [← hs3]
  have sz : ∀ b ∈ fp, b < s2.heap.objs.size := fun b hb => by
    obtain ⟨o, e, _⟩ := T.obj _ _ st2 b hb
    exact Heap.lt_size e
  have f3 : ∀ b ∈ fp, FpOk X pins (upd H2 D (.lst [])) b ∧ b < s3.heap.objs.size := fun b hb => by
    have hlt := sz b hb
    refine ⟨⟨?_, (f2 b hb).2⟩, by rw [h3, Heap.size_push]; exact Nat.lt_succ_of_lt hlt⟩
    rw [upd_ne (by rw [← hD]; exact Nat.ne_of_lt hlt)]
    exact (f2 b hb).1
  have st3 : tn 0 s3.heap := T.keep _ _ _ st2 fun b _ o e => by rw [h3]; exact Heap.get?_push_of_some _ e
  have I4 := block_start I3 ok hN f3
  have hotB := hotS_blk (scope := scope) (cenv := compEnvC scope (cellsFrom (s3.heap.objs.size + 1) scope.names (cloFrom X.env.cells scope.names [])) s3.heap.objs.size X.env) hc I3 fun b hb => (f3 b hb).1
  have pg := hg s3 (upd H2 D (.lst [])) s3.heap.objs.size (cellsFrom (s3.heap.objs.size + 1) scope.names (cloFrom X.env.cells scope.names [])) fp hotB
  have pt := ht s3 (upd H2 D (.lst [])) s3.heap.objs.size (cellsFrom (s3.heap.objs.size + 1) scope.names (cloFrom X.env.cells scope.names [])) fp
  have pe := he s3 (upd H2 D (.lst [])) s3.heap.objs.size (cellsFrom (s3.heap.objs.size + 1) scope.names (cloFrom X.env.cells scope.names [])) fp
  show codeAny _ _ (.compStart (.ListComp elt [⟨tg, iter, ifs, 0⟩] scope pos) 0 (.ref it) (.ref D) (compEnvC scope (cellsFrom (s3.heap.objs.size + 1) scope.names (cloFrom X.env.cells scope.names [])) s3.heap.objs.size X.env)) (compPost (model X.prog X.w) X.A X.xe use Qf (.ref D) s3.heap.objs.size) { s3 with heap := pushCells (s3.heap.push { cls := .type "dict", data := .dict #[] }) scope.names }
  have nfp : ∀ b ∈ fp, (upd H2 D (.lst [])) b = none := fun b hb => (f3 b hb).1.1
  generalize hce : compEnvC scope (cellsFrom (s3.heap.objs.size + 1) scope.names (cloFrom X.env.cells scope.names [])) s3.heap.objs.size X.env = ce at I4 pg pt pe hotB ⊢
  have cL : ce.locals = s3.heap.objs.size := by subst hce; rfl
  generalize hH3 : upd H2 D (.lst []) = H3 at I3 I4 pg pt pe hotB w0 nfp f3
  generalize hs4 : ({ s3 with heap := pushCells (s3.heap.push { cls := .type "dict", data := .dict #[] }) scope.names } : Shared) = s4 at I4 ⊢
  have st4 : tn 0 s4.heap := T.keep _ _ _ st3 fun b _ o e => by rw [← hs4]; exact pushCells_keeps _ _ _ _ (Heap.get?_push_of_some _ e)
  have stat : ∀ {σ' : L2.St} {H' : Hp} {s' : Shared}, Inv (X.blk s3 H3 scope ce fp) [] σ' H' s' → (∀ b ∈ fp, H' b = none) → ∀ b ∈ fp, FpOk (X.blk s3 H3 scope ce fp) [] H' b := fun {σ' H' s'} I' hn b hb =>
    ⟨hn b hb, (I'.ok.exf b hb).1, I'.ok.exfs b hb, .inl hb, fun x c e => (I'.ok.exf b hb).2 x c e, fun p hp => absurd (show p ∈ ([] : List (Addr × Obj)) ++ [] from hp) (by simp)⟩
  have loop : codeAny (model X.prog X.w) X.A (.compLoop (.ListComp elt [⟨tg, iter, ifs, 0⟩] scope pos) 0 (.ref it) (.ref D) ce) (compPost (model X.prog X.w) X.A X.xe use Qf (.ref D) s3.heap.objs.size) s4 := by
    refine compLoop_any (fun n s' => ∃ i H', Inv (X.blk s3 H3 scope ce fp) [] (wipe σ (own.map (·.2))) H' s' ∧ tn i s'.heap ∧ (∀ b ∈ fp, H' b = none) ∧ W i n H') ?_ m0 ⟨0, H3, I4, st4, nfp, w0⟩
    rintro n s5 ⟨i, H5, I5, st5, n5, w5⟩
    rcases turn i n H5 w5 with ⟨stop, qq⟩ | ⟨go, Nx, hNx, step⟩
    · have td := T.done (X.blk s3 H3 scope ce fp) rfl rfl rfl hotB i [] s5 _ H5 (fun _ _ => False) I5 (stat I5 n5) st5 stop
      refine thnF td fun r s6 ⟨hr, I6⟩ => ?_
      subst hr
      -- back in the def's context
      have I7 : Inv X pins σ H5 s6 := I3.call' (ch := fp) I6.os I6.base I6.hok I6.bare fun b hb => ⟨(f3 b hb).1.2.2.2.1, (f3 b hb).1.2.1, (f3 b hb).1.2.2.2.2.1, (f3 b hb).1.2.2.2.2.2⟩
      have nC : H5 s3.heap.objs.size = none := by
        have z : H5 ce.locals = none := I6.free
        rw [cL] at z
        exact z
      obtain ⟨m, hn, _⟩ := I6.loc
      have hn : s6.heap.Ns ce.locals m := hn
      rw [cL] at hn
      exact hRR D s3.heap.objs.size s6 m H5 I7 qq hn (I3.fpOk (Nat.le_refl _) nC)
    · have ti := T.item (X.blk s3 H3 scope ce fp) rfl rfl rfl hotB i [] s5 _ H5 (fun _ _ => False) I5 (stat I5 n5) st5 go
      refine thnF ti fun r s6 ⟨u, hr, h6⟩ => ?_
      subst hr
      refine thnF h6 fun _ s7 ⟨x, H7, I7, r7, y7, st7, n7⟩ => ?_
      have I7' := I7.pinned (stat I7 n7) (T.obj _ _ st7)
      refine thnF (pg.run _ s7 _ H7 x u _ I7' r7 (step x H7 y7)) fun _ s8 ⟨σ8, H8, I8, hw8, q8⟩ => ?_
      refine thnF (pt.run _ s8 σ8 H8 _ I8 q8) fun b s9 ⟨H9, I9, q9⟩ => ?_
      -- the turn's end
      have fin : ∀ {s' : Shared} {H' : Hp}, Inv (X.blk s3 H3 scope ce fp) ([] ++ pinsAt fp s7.heap) σ8 H' s' → Nx H' → ∃ m, m < n ∧ ∃ i H', Inv (X.blk s3 H3 scope ce fp) [] (wipe σ (own.map (·.2))) H' s' ∧ tn i s'.heap ∧ (∀ b ∈ fp, H' b = none) ∧ W i m H' := fun {s' H'} I' nx => by
        obtain ⟨m', hm, w'⟩ := hNx H' nx
        have pin' : ∀ b ∈ fp, ∀ o, s7.heap.get? b = some o → s'.heap.get? b = some o ∧ H' b = none := fun b hb o e =>
          let z := I'.pin (b, o) (List.mem_append_right _ (List.mem_append_right _ (mem_pinsAt hb e)))
          ⟨z.1, z.2.1⟩
        have hl : (wipe σ (own.map (·.2))).length = σ8.length := by rw [← hw8, wipe_length]
        refine ⟨m', hm, i + 1, H', (I'.unpinned (pins := [])).weak hl (fun j v e => ?_), T.keep _ _ _ st7 fun b hb o e => (pin' b hb o e).1, fun b hb => ?_, w'⟩
        · rw [← hw8] at e
          exact (wipe_some e).1
        · obtain ⟨o, e, _⟩ := T.obj _ _ st7 b hb
          exact (pin' b hb o e).2
      cases b with
      | false =>
        simp only [Bool.false_eq_true, if_false] at q9 ⊢
        exact fin I9 q9
      | true =>
        simp only [if_true] at q9 ⊢
        refine thnF (pe.run _ s9 σ8 H9 _ I9 q9) fun z s10 ⟨yv, H10, I10, r10, acc, hD10, hz10, nx⟩ => ?_
        exact app_ok (X := X.blk s3 H3 scope ce fp) I10 hD10 hz10 r10 fun s11 I11 => fin I11 nx
  exact codeAny_compStart_list loop (T.self X.A 0 _ _ _ st4 loop)
theorem pe_lcS {elt tg iter : Expr} {ifs : List Expr} {scope : Scope} {own : List (Str × Nat)} {pos : Pos} {wi : TI} {g : TG} {tt : TT} {te : TE} (hc : L2H.HotC X) (hN : X.N.Nodup) (hi : PIS X tg iter wi) (ok : BlkOk X.N X.env.scope scope own)
    (hg : ∀ (s : Shared) (H : Hp) (C : Addr) (cl : List (Str × Addr)) (fp : List Addr), HotS (X.blk s H scope (compEnvC scope cl C X.env) fp) → PG (X.blk s H scope (compEnvC scope cl C X.env) fp) tg g) (ht : ∀ (s : Shared) (H : Hp) (C : Addr) (cl : List (Str × Addr)) (fp : List Addr), PTs (X.blk s H scope (compEnvC scope cl C X.env) fp) ifs tt)
    (he : ∀ (s : Shared) (H : Hp) (C : Addr) (cl : List (Str × Addr)) (fp : List Addr), PE (X.blk s H scope (compEnvC scope cl C X.env) fp) elt te) (hs : ∀ x, foldedSetIterable iter X.env x = pure x := by intro _; rfl) :
    PE X (.ListComp elt [⟨tg, iter, ifs, 0⟩] scope pos) (tLc wi g tt te (own.map (·.2))) := by
  refine ⟨fun pins s σ H Q I h => ?_⟩
  rw [eval_ListComp]
  refine lc_coreS hc hN I hi ok hg ht he hs h fun D C s' m H' I' q hn f => ⟨m, hn, fun h'' sb => ?_⟩
  obtain ⟨f0, f1, f2, f3, f4, f5⟩ := f
  exact ⟨.ref D, H', I'.turned (t' := s'.toks) (fun b o hb e => (sb.2 b hb).trans e) f0 f1 f3 f4 f5, rfl, q⟩
theorem pg_tupS {es : List Expr} {k : Nat} {t : TGs} {n : Nat} {pos : Pos} (hc : HotS X) (h : PGs X es t)
    (hn : (assignEach es X.env).length = n := by rfl) (hst : (assignEach es X.env).findIdx? (·.1) = none := by rfl) : PG X (.Tuple es k pos) (gTup X.K n t) := by
  refine ⟨fun pins s σ H v u Q I r hw => ?_⟩
  obtain ⟨a, xs, e1, hq, hl, hw⟩ := hw
  subst e1
  cases r
  obtain ⟨its, rv, ht, hz⟩ := I.tuple hq
  obtain ⟨x1, hot⟩ := hc
  rw [assign_Tuple]
  refine wpAny_bind (wpAny_standAt (unpack_hot (hot _ _ _ _ I) ht (by simp [hn, ← hl, rv.length]) hst fun h' hx => ?_))
  have I1 : Inv X pins σ H { s with heap := h' } := I.kept (t' := s.toks) fun b o e => hx b o (Nat.ne_of_lt (Heap.lt_size e)) e
  exact h.run pins _ σ H xs _ Q I1 (by simpa using rv) hw
end
end DL
set_option maxHeartbeats 4000000
/-! DX2: split, join; classes by name; isinstance of a caught exception; comprehensions while one is handled. -/
namespace DL
open PySem PySem.Spec PyProof.Rows L2
def wSplit (wo we : DW) : DW := fun ρ mu Φ Ξ => wo ρ mu (fun x mu1 => match x with
  | .str a => we ρ mu1 (fun y mu2 => match y with | .str b => (b.length == 0) = false ∧ a.length ≤ 100000 ∧ Φ (.lst ((Txt.split a b).map D.str)) mu2 | _ => False) Ξ
  | _ => False) Ξ
def wJoin (wo we : DW) : DW := fun ρ mu Φ Ξ => wo ρ mu (fun x mu1 => match x with
  | .str a => we ρ mu1 (fun y mu2 => match y with | .lst ds => ∃ ys : List Str, ds = ys.map D.str ∧ (ys.map (·.length)).sum + ys.length * a.length ≤ 16777216 ∧ Φ (.str (Txt.join a ys)) mu2 | _ => False) Ξ
  | _ => False) Ξ
theorem RepL.strs {W : Wd} : ∀ ys : List Str, RepL W (ys.map D.str) (ys.map V.str)
  | [] => .nil
  | y :: ys => .cons .str (RepL.strs ys)
theorem RepL.strsV {W : Wd} : ∀ {ns : List Str} {vs : List V}, RepL W (ns.map D.str) vs → vs = ns.map V.str
  | [], _, h => h.nil_of
  | n :: ns, _, h => by
    obtain ⟨v, r, rfl, h1, h2⟩ := h.uncons
    rw [h1.str_of, RepL.strsV h2]
    rfl
section
variable {X : Cx} {T : List (Addr × Str)} {E : XK} {o e : Expr} {wo we : DW}
theorem de_split {apos pos : Pos} (ho : PE X o (tOf T E wo)) (he : PE X e (tOf T E we)) (hs : starEach [e] X.env = [(false, eval e X.env)] := by rfl) (hbase : attributeBase o "split" X.env (eval o X.env) = eval o X.env := by rfl) (hline : (apos.endLine == pos.line) = true := by rfl) :
    PE X (.Call (.Attribute o "split" apos) [e] [] pos) (tOf T E (wSplit wo we)) := (pe_split ho he hs hbase hline).imp fun σ H Q ⟨W, ρ, Φ, Ξ, e1, ok, re, hw, tq, tx⟩ => ⟨W, ρ, _, Ξ, e1, ok, re, hw, fun W1 x v l1 ok1 r1 h1 => by
    cases x with
    | str a =>
      refine ⟨⟨a, r1.str_of⟩, W1, ρ, _, Ξ, rfl, ok1, re.mono l1, h1, fun W2 y u l2 ok2 r2 h2 => ?_, tx.mono l1⟩
      cases y with
      | str b =>
        obtain ⟨h2, h3, h4⟩ := h2
        exact ⟨a, b, r1.str_of, by rw [r2.str_of], h2, Nat.le_trans (Nat.add_le_add_right h3 2) (by decide), (tq.mono (l1.trans l2)).lst ok2 (RepL.strs _) h4⟩
      | _ => exact h2.elim
    | _ => exact h1.elim, tx⟩
theorem de_join {apos pos : Pos} (ho : PE X o (tOf T E wo)) (he : PE X e (tOf T E we)) (hs : starEach [e] X.env = [(false, eval e X.env)] := by rfl) (hbase : attributeBase o "join" X.env (eval o X.env) = eval o X.env := by rfl) (hline : (apos.endLine == pos.line) = true := by rfl) :
    PE X (.Call (.Attribute o "join" apos) [e] [] pos) (tOf T E (wJoin wo we)) := (pe_join ho he hs hbase hline).imp fun σ H Q ⟨W, ρ, Φ, Ξ, e1, ok, re, hw, tq, tx⟩ => ⟨W, ρ, _, Ξ, e1, ok, re, hw, fun W1 x v l1 ok1 r1 h1 => by
    cases x with
    | str a =>
      refine ⟨⟨a, r1.str_of⟩, W1, ρ, _, Ξ, rfl, ok1, re.mono l1, h1, fun W2 y u l2 ok2 r2 h2 => ?_, tx.mono l1⟩
      cases y with
      | lst ds =>
        obtain ⟨ys, rfl, h3, h4⟩ := h2
        obtain ⟨p, vs, rfl, _, g1, g2⟩ := r2.lst_of
        rw [g2.strsV] at g1
        exact ⟨a, p, ys, r1.str_of, rfl, .inl (SqL.of g1), h3, tq W2 _ _ (l1.trans l2) ok2 .str h4⟩
      | _ => exact h2.elim
    | _ => exact h1.elim, tx⟩
/-! ### classes -/
def clD (mg : Str → Option Value) (x : Str) : D := match mg x with | some (.ref a) => .ref a | _ => .non
theorem de_cls {x : Str} {pos : Pos} (hg : Gl X x) (F : ∃ C : Addr, X.mg x = some (.ref C)) (hd : (x == ("__debug__" : Str)) = false := by decide) : PE X (.Name x pos) (tOf T E (wC (clD X.mg x))) := by
  obtain ⟨C, h⟩ := F
  have e : clD X.mg x = .ref C := by unfold clD; rw [h]
  rw [e]
  exact de_globR hg h hd
/-- isinstance(e, C), e a caught exception -/
def clsV : D → Option Value
  | .ref a => some (.ref a)
  | .ty n => some (.type n)
  | _ => none
def dIsE (K : PySem.W.Frag) (cls : Value) (a : Addr) : List D → MS → (D → MS → Prop) → Prop := fun ds mu Φ => match ds with
  | [.ref b, c] => b = a ∧ ∃ v k, clsV c = some v ∧ PySem.W.kitOne K cls v = some k ∧ Φ (.bl k) mu
  | _ => False
theorem s_isE {D0 a : Addr} {K : PySem.W.Frag} : SimC T (rIsE K D0 a) (dIsE K (.ref D0) a) := fun W xs us Φ Q ok r h tq => by
  unfold dIsE at h
  split at h
  · obtain ⟨rfl, v, k, h1, h2, h3⟩ := h
    obtain ⟨u, u', rfl, r1, r2⟩ := r.two_of
    rw [r1.ref_of]
    rename_i c
    refine ⟨u', v, k, rfl, fun z rz => ?_, h2, tq W _ _ (.refl W) ok .bl h3⟩
    cases c with
    | ref a =>
      rw [r2.ref_of] at rz
      cases h1
      exact rz
    | ty n =>
      rw [r2.ty_of] at rz
      cases h1
      exact rz
    | _ => cases h1
  · exact h.elim
/-- the exception that is handled is one of the context's pins -/
theorem call_isEP {D0 : Addr} {p : Addr × Obj} (C : ExcC X.K D0) (hp : p ∈ X.pn) (hz : Zc (.ref D0) none p.2) (hf : ∃ vs, p.2.data = .fields vs) : CallR X (.builtin "isinstance") (rIsE X.K D0 p.1) := by
  intro pins s σ H xs us Q I r h
  obtain ⟨c, cv, b, rfl, hcv, e, q⟩ := h
  obtain ⟨a, oe⟩ := p
  cases r with
  | cons rx rr =>
    cases rr with
    | cons rt rr =>
      cases rr
      cases rx
      have ec := hcv _ rt
      subst ec
      obtain ⟨hget, _⟩ := I.pin (a, oe) (List.mem_append_left _ hp)
      obtain ⟨vs, hv⟩ := hf
      have J : PySem.W.InstAt s.heap a oe D0 none := by
        obtain ⟨oc, od, oda, osl⟩ := oe
        obtain ⟨h1, h2⟩ := hz
        dsimp only at h1 h2 hv
        subst h1 h2 hv
        exact ⟨hget, rfl, rfl, trivial⟩
      exact PySem.W.kia_one (PySem.W.handS_kitx_exc C.hg C.hk C.hs C.hd C.ha C.hn C.ht C.hm) I.kIn J e (fun z => nomatch z) fun tk => ⟨.bl b, H, I.kept (t' := tk) fun _ _ z => z, rfl, q⟩
/-! ### zip while an exception is handled -/
theorem PIS.imp {tg e : Expr} {t t' : TI} (h : PIS X tg e t) (i : ∀ σ H Q, t' σ H Q → t σ H Q) : PIS X tg e t' := ⟨fun pins s σ H Q I q => h.run pins s σ H Q I (i _ _ _ q)⟩
def wZpL (wr : DWA) : DWI := fun ρ mu Φ Ξ => wr ρ mu (fun ds mu1 => match ds with | [.lst xs, .lst ys] => Φ (zpD xs ys) mu1 | _ => False) Ξ
theorem di_zipS {e2 : Expr} {elts : List Expr} {kk n : Nat} {p pos tpos : Pos} {wr : DWA} (hg : Gl X "zip") (hm : X.mg "zip" = none) (ha : PA X [e, e2] (tOfA T E n wr))
    (hs : starEach [e, e2] X.env = (false, eval e X.env) :: starEach [e2] X.env := by rfl) (hpl : (backTo pos (starEach [e2] X.env)).any (·.1) = false := by rfl) :
    PIS X (.Tuple elts kk tpos) (.Call (.Name "zip" p) [e, e2] [] pos) (tOfI T E (wZpL wr)) := (pi_zipS hg hm ha hs hpl).imp fun σ H R h => by
  obtain ⟨W, ρ, Φ, Ξ, e1, ok, re, hw, tq, tx⟩ := h
  refine ⟨W, ρ, _, Ξ, e1, ok, re, hw, fun W1 ds vs l1 ok1 r1 hl h1 => ?_, tx⟩
  match ds, h1, r1 with
  | [.lst xs, .lst ys], h1, r1 =>
    obtain ⟨v, v', rfl, r2, r3⟩ := r1.two_of
    obtain ⟨q, us, rfl, nh, g1, g2⟩ := r2.lst_of
    obtain ⟨q', us', rfl, nh', g1', g2'⟩ := r3.lst_of
    exact ⟨q, q', us, us', rfl, SqL.of g1, SqL.of g1', tq W1 _ _ l1 ok1 (it_zipL nh g1 g2 nh' g1' g2') h1⟩
end
end DL
set_option maxHeartbeats 4000000
/-! DX3: try with several clauses 'except X as n' (the rows follow HandS.ExcCtx). -/
namespace DL
open PySem PySem.Spec PyProof.Rows L2
/-- what the clauses wish of an exception of the body, one after the other -/
def wAsMany (K : PySem.W.Frag) (Wout : WX) (D : Ends) : List (Value × Nat × (Addr → Value → Option Addr → TS)) → WX
  | [] => Wout
  | (c, i, ts) :: r => fun cls d σ H => ∃ b, PySem.W.exmOne K cls c = some b ∧
      (b = true → ∀ a, H a = none → ts a cls d { nx := fun σ' H' => D.nx (σ'.set i none) H', rt := D.rt, bk := fun σ' H' => D.bk (σ'.set i none) H', ct := fun σ' H' => D.ct (σ'.set i none) H' } (σ.set i (some (.ref a))) H) ∧ (b = false → wAsMany K Wout D r cls d σ H)
inductive HdsAs (X : Cx) : List ExceptHandler → List (Value × Nat × (Addr → Value → Option Addr → TS)) → Prop
  | nil : HdsAs X [] []
  | cons {x n : Str} {c : Value} {i : Nat} {ts : Addr → Value → Option Addr → TS} {b₀ : Stmt} {suite : List Stmt} {np pos' : Pos} {hds : List ExceptHandler} {l : List (Value × Nat × (Addr → Value → Option Addr → TS))} (hi : X.N[i]? = some n) (hln : X.env.kindOf n = some .local) (hc : Names X x c)
      (hsu : ∀ (a : Addr) (oe : Obj) (cls : Value) (d : Option Addr) (pn : List (Addr × Obj)), L2N.Zn cls d oe → (∃ vs, oe.data = .fields vs) → PSs (X.suite a ((a, oe) :: pn)) (b₀ :: suite) (ts a cls d)) (r : HdsAs X hds l) :
      HdsAs X (.ExceptHandler (some (.Name x np)) (some n) (b₀ :: suite) pos' :: hds) ((c, i, ts) :: l)
section
variable {X : Cx} {body : List Stmt} {h₀ : ExceptHandler} {hds : List ExceptHandler} {l : List (Value × Nat × (Addr → Value → Option Addr → TS))} {pos : Pos} {tb : WX → TS} {Wout : WX}
theorem ps_try_asMany (hN : X.N.Nodup) (hs : X.stack = X.env :: X.outer) (hf : X.env.frame = some X.env.locals) (tk : L2N.Takes X Wout)
    (hb : ∀ (W : WX) (pn : List (Addr × Obj)) (xe : Value → Shared → Prop), L2N.Takes (X.tr pn xe) W → PassesOwn (model X.prog X.w) X.A X.env xe → PSs (X.tr pn xe) body (tb W))
    (hh : HdsAs X (h₀ :: hds) l) : PS X (.Try body (h₀ :: hds) [] [] pos) (fun D σ H => tb (wAsMany X.K Wout D l) D σ H) := by
  refine ⟨fun pins s σ H D I h => ?_⟩
  have ok := I.ok
  have hfr : X.A.frames = some (X.env :: X.outer) := by rw [ok.frames, hs]
  refine wpAny_Try_except ?_
  refine wpAny_mono ((hb (wAsMany X.K Wout D l) (X.pn ++ pins) (fun e s₁ => wpAny (model X.prog X.w) X.A (noteFrame e X.env) (fun _ s₂ => wpAny (model X.prog X.w) X.A (setFlight e none) (fun _ s₃ =>
    wpAny (model X.prog X.w) X.A (handleBy e X.env (h₀ :: hds)) (SP X pins D) X.xe s₃) X.xe s₂) X.xe s₁) (fun u s' xx => ?_) PassesOwn.looking).run [] s σ H D (I.toTry _) h) (fun f s1 hsp => ?_) (fun e s1 he => he)
  · -- the catch
    obtain ⟨a, B, sI, pins', σ', H', cls, d, rfl, J', nb, up, sky, na, os, ag, w⟩ := xx
    have J : Inv X pins σ' H' sI := J'.ofTry ok
    have sky' : L2.Sky B (X.env :: X.outer) a (L2N.Zn cls d) X.env.locals s'.heap := by rw [← hs]; exact sky
    show wpAny (model X.prog X.w) X.A (noteFrame (.ref a) X.env) _ _ _
    refine L2N.Sky.land L2N.Zn.steady hfr hf sky' fun h3 fl3 up3 => ?_
    have J3 : Inv X pins σ' H' { s' with heap := h3 } := J.landed nb fl3.1 (up.trans up3) os ag
    obtain ⟨oe3, vs3, he3, hz3, hd3⟩ := fl3.there
    have notFr : ∀ {h : Heap} {o : Obj} {vs : Array Value}, h.FunFrames B (X.env :: X.outer) → h.get? a = some o → o.data = .fields vs → a ∉ frs (X.env :: X.outer) := fun {h o vs} ff e dd hm => by
      obtain ⟨_, o', e', hnf⟩ := ff.mem hm
      rw [e] at e'; cases e'
      exact hnf _ dd
    have nfr := notFr fl3.2.2.1 he3 hd3
    have nL : a ≠ X.env.locals := fun z => nfr (List.mem_filterMap.mpr ⟨X.env, List.mem_cons_self, by rw [hf, z]⟩)
    have nF : a ∉ X.fs := fun hm => by
      obtain ⟨e, he, q⟩ := List.mem_filterMap.mp hm
      exact nfr (List.mem_filterMap.mpr ⟨e, List.mem_cons_of_mem _ he, q⟩)
    have S3 := J3.suite he3 hd3 na nL nF
    have go : ∀ {hds' : List ExceptHandler} {l' : List (Value × Nat × (Addr → Value → Option Addr → TS))}, HdsAs X hds' l' → wAsMany X.K Wout D l' cls d σ' H' →
        wpAny (model X.prog X.w) X.A (handleBy (.ref a) X.env hds') (SP X pins D) X.xe { s' with heap := h3 } := by
      intro hds' l' hk
      induction hk with
      | nil =>
        intro w
        refine wpAny_handleBy_nil ?_
        obtain ⟨k1, k2, k3, oe, vs, T, oT, ts', he, hz, hd, h1, hr⟩ := id fl3
        unfold PySem.passOn
        refine wpAny_bind (wpAny_field he hd h1 ?_)
        rw [if_neg (show ¬ ((Value.ref T == Value.none) = true) from by simp)]
        have fin : wpAny (model X.prog X.w) X.A (setFlight (.ref a) X.env.frame) (fun _ s4 => wpAny (model X.prog X.w) X.A (throw (.ref a) : Sem Flow) (SP X pins D) X.xe s4) X.xe { s' with heap := h3 } := by
          rw [hf]
          refine HandSPX.setFlight_upZ fl3 fun h4 hh4 up4 => wpAny_throw (tk _ _ ?_)
          exact ⟨a, B, sI, pins, σ', H', cls, d, rfl, J, nb, (up.trans up3).trans up4, .inr (.inr (by rw [hs]; exact hh4)), na, os, ag, w⟩
        first
          | exact wpAny_bind (wpAny_pure (wpAny_bind fin))
          | exact wpAny_bind fin
      | @cons x n c i ts b₀ suite np pos' hds2 l2 hi hln hc hsu r ih =>
        have hloc : Loc X.env.scope n := .inl hln
        intro w
        obtain ⟨b, hb1, hyes, hno⟩ := w
        refine wpAny_handleBy_cons (codeAny_handlers_test ?_) (by intro q; cases q)
        have LT : PySem.W.Looks (model X.prog X.w) h3 (typeOf (.ref a)) cls := fun A Q E s k q => wpAny_typeOf_ref (k _ _ he3) (by rw [hz3.1]; exact q)
        have LM := PySem.W.exm_one (M := model X.prog X.w) (J3.kIn) LT hb1
        have test : ∀ {Q : Value → Shared → Prop} {E : Value → Shared → Prop}, Q c { s' with heap := h3 } → wpAny (model X.prog X.w) (X.A.mark (some (.ref a))) (eval (.Name x np) X.env) Q E { s' with heap := h3 } := fun {Q E} q => by
          obtain ⟨hg, hdbg, hm | ⟨hm, hv, hnn⟩⟩ := hc
          · exact ld_glob (X := X.suite a ((a, oe3) :: (X.pn ++ pins))) S3 hg hm q hdbg
          · exact ld_blt (X := X.suite a ((a, oe3) :: (X.pn ++ pins))) S3 hg hm hv q hnn hdbg
        refine test (LM.here ?_)
        cases b with
        | true =>
          refine codeAny_handlers_suite_as ?_
          refine HandSPX.lands_againZ fl3 fun h4 fl4 up4 => ?_
          have J4 : Inv X pins σ' H' { s' with heap := h4 } := J.landed nb fl4.1 ((up.trans up3).trans up4) os ag
          obtain ⟨oe4, vs4, he4, hz4, hd4⟩ := fl4.there
          have S4 := J4.suite he4 hd4 na nL nF
          refine store_ok (X := X.suite a ((a, oe4) :: (X.pn ++ pins))) (v := .ref a) S4 hN hi hloc rfl (fun s5 S5 => ?_) (.inr hln)
          refine wpAny_mono ((hsu a oe4 cls d (X.pn ++ pins) hz4 ⟨_, hd4⟩).run [] s5 _ H' _ S5 (hyes rfl a na)) (fun f s6 hsp => ?_) (fun _ _ z => False.elim z)
          have end_ : ∀ {σ6 : L2.St} {H6 : Hp} {Q : Shared → Prop}, Inv (X.suite a ((a, oe4) :: (X.pn ++ pins))) [] σ6 H6 s6 → (∀ s7, Inv X pins (σ6.set i none) H6 s7 → Q s7) →
              wpAny (model X.prog X.w) X.A (do bindName X.env n .none; unbindBehindTheSuite X.env n pos') (fun _ s7 => Q s7) X.xe s6 := fun {σ6 H6 Q} S6 hq => gone_ok (S6.unsuite ok) hN hi hln hq
          cases f with
          | next =>
            obtain ⟨σ6, H6, S6, q6⟩ := hsp
            exact end_ S6 fun s7 J7 => ⟨_, _, J7, q6⟩
          | brk =>
            obtain ⟨σ6, H6, S6, q6⟩ := hsp
            exact end_ S6 fun s7 J7 => ⟨_, _, J7, q6⟩
          | cont =>
            obtain ⟨σ6, H6, S6, q6⟩ := hsp
            exact end_ S6 fun s7 J7 => ⟨_, _, J7, q6⟩
          | ret u =>
            obtain ⟨v6, σ6, H6, S6, r6, q6⟩ := hsp
            exact end_ S6 fun s7 J7 => ⟨_, _, _, J7, r6, q6⟩
        | false =>
          show wpAny _ X.A (handleBy (.ref a) X.env hds2) _ _ _
          exact ih (hno rfl)
    exact go hh w
  · cases f with
    | next =>
      obtain ⟨σ', H', J', q⟩ := hsp
      exact wpAny_execs_nil ⟨σ', H', J'.ofTry ok, q⟩
    | brk =>
      obtain ⟨σ', H', J', q⟩ := hsp
      exact ⟨σ', H', J'.ofTry ok, q⟩
    | cont =>
      obtain ⟨σ', H', J', q⟩ := hsp
      exact ⟨σ', H', J'.ofTry ok, q⟩
    | ret u =>
      obtain ⟨v, σ', H', J', r, q⟩ := hsp
      exact ⟨v, σ', H', J'.ofTry ok, r, q⟩
end
end DL
set_option maxHeartbeats 4000000
/-! DX4: a lambda handed to the law's own try, whose clauses call a def while the exception is handled. -/
namespace DL
open PySem PySem.Spec PyProof.Rows L2
open LamX (CodeO Tabs TabB ExtN LamS lamCx lamEnv)
/-! ### a def called while an exception is handled -/
section
variable {P : Program} {w : World} {K : PySem.W.Frag} {mg : Str → Option Value} {base : Heap}
theorem runH1 {N ps : List Str} {x : Str} {st : Stmt} {f : Addr} {fd : FuncData} {k : Nat} {A : Around} {outer : List Env} {s : Shared} {H : Hp} {args : Args} {us : List Value} {vs : List V} {Q : VK} {p : Addr × Obj} {t : TS}
    (F : L2.Fun K x x st f fd) (S : FnScope N ps (defScope st)) (hl : vs.length = ps.length) (hr : L2H.RoomH (k + 1) A) (hot : L2H.Hot1 A p) (hpin : L2H.PinOk outer H s p) (e0 : Env0 P w K mg base A outer s H) (hb : BindsTo s fd args (ps.zip us)) (r : Vals vs us)
    (hbody : ∀ cdv : Value, PSs (L2H.cxH CX0 P w K mg base N x (defScope st) f cdv A outer s H E0 p).nox (defBody st) t) (hq : t { nx := fun _ H' => Q .non H', rt := Q } (L2.start N vs) H) :
    codeAny (model P w) A (.call (.ref f) args) (CR CX0 outer P w H s Q E0) s := by
  obtain ⟨oc, od, kV, doc, pm, an, cdv, ct, osl, rfl, lk, hcd⟩ := F.ex
  have KX : K.In s.heap := e0.mod.kin.keeps fun b o e => (e0.bs b o e).1
  have lim : s.heap.NoLimit := e0.mod.nolimit.keeps fun b o e => (e0.bs b o e).1
  have hkind : ∀ y ∈ ps.zip us, (defScope st).names.lookup y.1 = some .local ∨ ((defScope st).names.lookup y.1 = some .cell ∧ ((cellsFrom (s.heap.objs.size + 1) (defScope st).names []).lookup y.1).isSome = true) := fun ⟨n, v⟩ hy => by
    rcases S.par n (List.of_mem_zip hy).1 with q | q
    · exact .inl q
    · exact .inr ⟨q, PySem.W.cellsFrom_some _ _ _ (.inl q)⟩
  refine codeAny_call_function hr.depth (KX _ _ lk) rfl S.co S.gen rfl (PySem.W.codeRec_of KX hcd) (hb _ _ _ _ ?_)
  refine wpAny_newFunctionEnv_cells S.kind hkind fun env he s1 x1 => ?_
  subst he
  refine ⟨lim.keeps x1.toInCall.keep, codeAny_func ?_⟩
  have ht := (hbody cdv).nox
  have I : Inv (L2H.cxH CX0 P w K mg base N x (defScope st) f cdv A outer s H E0 p) [] (L2.start N vs) H s1 := L2H.inv_startH S hpin e0 hl r x1
  refine wpAny_mono (ht.run [] s1 (L2.start N vs) H _ I hq) (fun fl s' hs => ?_) fun e s' hs => hs
  have fin : ∀ {σ' : L2.St} {H' : Hp} {v : V} {u : Value}, Inv (L2H.cxH CX0 P w K mg base N x (defScope st) f cdv A outer s H E0 p) [] σ' H' s' → RelV v u → Q v H' → CE outer P w H s Q u s' :=
    fun {σ' H' v u} J rv q => ⟨v, H', J.os, J.bare, J.base, J.hok, rv, q⟩
  cases fl with
  | ret u =>
    obtain ⟨v, σ', H', J, rv, q⟩ := hs
    exact fin J rv q
  | next =>
    obtain ⟨σ', H', J, q⟩ := hs
    exact fin (v := V.non) (u := Value.none) J rfl q
  | brk =>
    obtain ⟨_, _, _, q⟩ := hs
    exact False.elim q
  | cont =>
    obtain ⟨_, _, _, q⟩ := hs
    exact False.elim q
end
/-- what the naming def says of a caught exception of the class at D0: txt -/
structure KinP (P : Program) (w : World) (K : PySem.W.Frag) (mg : Str → Option Value) (base : Heap) (T : List (Addr × Str)) (k : Nat) (x a : Str) (Kin : Addr → Str → Prop) : Prop where
  ex : ∃ (f : Addr) (fd : FuncData), mg x = some (.ref f) ∧ PySem.W.keepIn K (.ref f) = true ∧ L2.Binds K fd [a] [] ∧
    ∀ (A : Around) (outer : List Env) (s : Shared) (H : Hp) (args : Args) (p : Addr × Obj) (Q : VK) (W : Wd) (Φ : D → MS → Prop) (D0 : Addr) (txt : Str), L2H.RoomH k A → L2H.Hot1 A p → L2H.PinOk outer H s p → Env0 P w K mg base A outer s H →
      BindsTo s fd args ([a].zip [.ref p.1]) → ExcC K D0 → Zc (.ref D0) none p.2 → (∃ vs, p.2.data = .fields vs) → Kin D0 txt → W.H = H → WOk T W → Φ (.str txt) W.mu → TrQ T W Φ Q → codeAny (model P w) A (.call (.ref f) args) (CR CX0 outer P w H s Q E0) s
section
variable {X : Cx} {T : List (Addr × Str)} {Kin : Addr → Str → Prop}
/-- the reading of its call in an except suite: slot i holds the exception -/
def tKin (K : PySem.W.Frag) (T : List (Addr × Str)) (Kin : Addr → Str → Prop) (i : Nat) (a : Addr) (cls : Value) (d : Option Addr) : TE := fun σ H Q => σ[i]? = some (some (.ref a)) ∧ d = none ∧ ∃ (D0 : Addr) (txt : Str) (W : Wd) (Φ : D → MS → Prop), cls = .ref D0 ∧ ExcC K D0 ∧ Kin D0 txt ∧ W.H = H ∧ WOk T W ∧ Φ (.str txt) W.mu ∧ TrQ T W Φ Q
theorem pe_kin {k i : Nat} {x n pa : Str} {a : Addr} {oe : Obj} {cls : Value} {d : Option Addr} {pn : List (Addr × Obj)} {q p2 pos : Pos} (C : KinP X.prog X.w X.K X.mg X.base T k x pa Kin) (hr : Room k X.A) (hz : L2N.Zn cls d oe) (hf : ∃ vs, oe.data = .fields vs) (hg : Gl X x)
    (hN : X.N[i]? = some n) (hv : Vis X.env.scope n) (hd : (n == ("__debug__" : Str)) = false := by decide) (hcd : (n == ("__classdict__" : Str)) = false := by decide) (hdb : (x == ("__debug__" : Str)) = false := by decide) :
    PE (X.suite a ((a, oe) :: pn)) (.Call (.Name x q) [.Name n p2] [] pos) (tKin X.K T Kin i a cls d) := by
  obtain ⟨f, fd, hm, hk, hb, run⟩ := C.ex
  refine ⟨fun pins s σ H Q I h => ?_⟩
  obtain ⟨hs, hdn, D0, txt, W, Φ, rfl, hC, hkin, e1, ok, hΦ, tq⟩ := h
  subst hdn
  obtain ⟨vs0, hv0⟩ := hf
  have hot : L2H.Hot1 (X.suite a ((a, oe) :: pn)).A (a, oe) := ⟨rfl, vs0, hv0, hz.2.2 vs0 hv0⟩
  have ha : PA (X.suite a ((a, oe) :: pn)) [.Name n p2] (tCons (tVar i) tNil) := pa_cons (pe_var hN hv hd hcd) pa_nil
  refine wpAny_Call_Name_kw (ld_glob I hg hm ?_ hdb)
  refine PySem.W.callWith_K (h₀ := X.base) I.ok.mod.kin hk (thn (ha.run pos pins s σ H (fun vs H1 => vs = [V.ref a] ∧ H1 = H) I ⟨.ref a, hs, rfl, rfl⟩) fun us s1 ⟨vs, H1, I1, r, q1, q2⟩ => ⟨I1.kIn, ?_⟩) (by rfl) (by rfl)
  subst q1 q2
  obtain ⟨u, rfl, ru⟩ := vals1 r
  obtain rfl : u = Value.ref a := ru
  have b := hb s1 [.ref a] I1.kIn (by rfl)
  rw [List.append_nil] at b
  have P1 := I1.pin (a, oe) (List.mem_append_left _ List.mem_cons_self)
  have hpin : L2H.PinOk X.stack H1 s1 (a, oe) := ⟨P1.1, P1.2.1, fun hm => (List.mem_cons.mp (I1.stkSub a hm)).elim P1.2.2.1 P1.2.2.2.1, P1.2.2.2.2⟩
  refine wpAny_call (codeAny_mono (run (X.suite a ((a, oe) :: pn)).A X.stack s1 H1 ⟨[.ref a], []⟩ (a, oe) Q W Φ D0 txt ⟨hr.dp, hr.un⟩ hot hpin I1.env0 b hC hz.zc ⟨vs0, hv0⟩ hkin e1 ok hΦ tq) fun r s' hq => ?_)
  cases r with
  | error e => exact (show False from hq).elim
  | ok fl =>
    cases fl with
    | ret u => exact I1.after hq
    | next => exact False.elim hq
    | brk => exact False.elim hq
    | cont => exact False.elim hq
end
/-! ### the lambda -/
/-- the context of a lambda's body: what it raises has None as its context -/
def lamCxN (X : Cx) (A : Around) (outer : List Env) (s : Shared) (H : Hp) (E : XK) (scope : Scope) (f c' : Addr) : Cx :=
  { lamCx X A outer s H E scope f c' with xe := fun e s' => wpAny (model X.prog X.w) (A.deeper (lamEnv X scope s.heap.objs.size f c')) (leaving (lamEnv X scope s.heap.objs.size f c') e) (fun _ s'' => L2N.CX X.prog X.w outer H s E e s'') (fun e' s'' => L2N.CX X.prog X.w outer H s E e' s'') s' }
theorem inv_xe {X : Cx} {pins : List (Addr × Obj)} {σ : L2.St} {H : Hp} {s : Shared} {xe : Value → Shared → Prop} (I : Inv X pins σ H s) : Inv { X with xe := xe } pins σ H s :=
  ⟨I.ok.toTry X.pn xe, I.os, I.bare, I.base, I.loc, I.cell, I.free, I.freeC, I.pin, I.hok, I.len⟩
section
variable {X : Cx} {pins : List (Addr × Obj)} {σ : L2.St} {H HZ : Hp} {s s1 : Shared}
theorem pe_actN {CXg : CXT} {Eg : XK} {Ng : List Str} {qg : Str} {sg : Scope} {g f c' : Addr} {cdg pm ctv : Value} {params : Arguments} {body : Expr} {scope : Scope} {k i : Nat} {a : Str} {pn : List (Addr × Obj)} {xe : Value → Shared → Prop} {W : WX} {E : XK} {tb : TE} {p1 p2 : Pos}
    (I : Inv X pins σ H s) (L : LamS X.env.scope scope) (hf : s.heap.get? f = some (PySem.W.kla_obj "<lambda>" (X.env.qual ++ "<lambda>") params body scope (cloFrom X.env.cells scope.names []) pm c' ctv)) (hfn : H f = none) (hfr : f ∉ frs X.stack)
    (hbind : bindArgs (PySem.W.kla_fn "<lambda>" (X.env.qual ++ "<lambda>") params body scope (cloFrom X.env.cells scope.names []) pm (.ref c') ctv) ⟨[], []⟩ = pure [])
    (tk : L2N.Takes ((cxOf CXg X.prog X.w X.K X.mg X.base Ng qg sg g cdg X.A X.stack s H Eg).tr pn xe) W) (hW : ∀ cls d (σ' : L2.St) H', σ'.length = Ng.length → E cls d H' → W cls d σ' H') (hr : Room (k + 1) (X.A.deeper (envOfC qg sg s.heap.objs.size g cdg)))
    (hbody : ∀ (A : Around) (outer : List Env) (s : Shared) (H : Hp), Room k (A.deeper (lamEnv X scope s.heap.objs.size f c')) → PE (lamCxN X A outer s H E scope f c') body tb)
    (hN : Ng[i]? = some a) (hv : Vis sg a) (hd : (a == ("__debug__" : Str)) = false := by decide) (hcd : (a == ("__classdict__" : Str)) = false := by decide) :
    PE ((cxOf CXg X.prog X.w X.K X.mg X.base Ng qg sg g cdg X.A X.stack s H Eg).tr pn xe) (.Call (.Name a p1) [] [] p2)
      (fun σZ HZ Q => σZ[i]? = some (some (.ref f)) ∧ HZ c' = some (CodeO c' (X.env.qual ++ "<lambda>")) ∧ tb σ HZ Q) := by
  refine ⟨fun pinsZ sZ σZ HZ Q IZ h => ?_⟩
  obtain ⟨hs, hc, ht⟩ := h
  refine wpAny_Call_Name_kw (thn ((pe_var (pos := p1) (i := i) hN hv hd hcd).run pinsZ sZ σZ HZ (fun v H1 => v = .ref f ∧ H1 = HZ) IZ ⟨.ref f, hs, rfl, rfl⟩) fun u s1 ⟨v, H1, I1, r1, q1⟩ => ?_)
  obtain ⟨ev, eH⟩ := q1
  subst ev
  rw [eH] at I1
  obtain rfl : u = Value.ref f := r1
  have of1 : s1.heap.get? f = some (PySem.W.kla_obj "<lambda>" (X.env.qual ++ "<lambda>") params body scope (cloFrom X.env.cells scope.names []) pm c' ctv) := I1.base.keep f _ hf hfn hfr (fun z => nomatch (show f ∈ ([] : List Addr) from z))
  refine PySem.W.callWith_F0 ⟨_, _, _, _, of1⟩ ?_
  have un : Un (frs X.stack) [] H HZ s.heap s1.heap := I1.base
  obtain ⟨⟨oc, vs, t, hoc, hdc, hvc⟩, _, _⟩ := I1.hok c' _ hc
  have rc : codeAny (model X.prog X.w) (X.A.deeper (envOfC qg sg s.heap.objs.size g cdg)) (.call (.ref f) ⟨[], []⟩) (CR (L2N.CX X.prog X.w) (envOfC qg sg s.heap.objs.size g cdg :: X.stack) X.prog X.w HZ s1 Q E) s1 := by
    refine PySem.W.kla_callFunE hr.depth of1 rfl L.co L.gen rfl ⟨c', oc, vs, t, rfl, hoc, hdc, hvc⟩ ?_
    rw [hbind]
    refine wpAny_pure (wpAny_newFunctionEnv (fun y hy => (L.own y hy).2) (fun y hy => absurd hy (by simp)) (fun h₁ hns hsb => ⟨I1.nolimit.fresh _ hsb, ?_⟩) L.kind)
    show codeAny _ _ (.expr body (lamEnv X scope s1.heap.objs.size f c')) _ _
    have kp : ∀ b o, s1.heap.get? b = some o → h₁.get? b = some o := fun b o e => hsb.extBut b o (Nat.ne_of_lt (Heap.lt_size e)) (Heap.get?_push_of_some _ e)
    have J0 : Inv (lamCx X (X.A.deeper (envOfC qg sg s.heap.objs.size g cdg)) (envOfC qg sg s.heap.objs.size g cdg :: X.stack) s1 HZ E scope f c') [] σ HZ { s1 with heap := h₁, toks := s1.toks + ([] : List (Str × Value)).length } :=
      LamX.lam_start2 I L I1.env0 hr.hd un hns kp
    have J : Inv (lamCxN X (X.A.deeper (envOfC qg sg s.heap.objs.size g cdg)) (envOfC qg sg s.heap.objs.size g cdg :: X.stack) s1 HZ E scope f c') [] σ HZ { s1 with heap := h₁, toks := s1.toks + ([] : List (Str × Value)).length } := inv_xe J0
    refine PySem.W.kla_codeExpr (wpAny_mono ((hbody _ _ s1 HZ (hr.deeper _)).run [] _ _ HZ Q J ht) (fun v s' hq => ?_) fun e s' hq => hq)
    obtain ⟨w', H', J', rv, q⟩ := hq
    exact ⟨w', H', J'.os, J'.bare, J'.base, J'.hok, rv, q⟩
  refine wpAny_call (codeAny_mono rc fun r s' hq => ?_)
  cases r with
  | error e => exact tk e s' (L2N.XE.of_call I1 (fun cls d H' h => hW cls d σZ H' I1.len h) hq)
  | ok fl =>
    cases fl with
    | ret u => exact I1.after hq
    | next => exact False.elim hq
    | brk => exact False.elim hq
    | cont => exact False.elim hq
end
/-- the def that calls what it got: a calls it; TT: what it makes of the lambda's reading -/
def GivesN (X : Cx) (Ng : List Str) (x : Str) (sg : Scope) (g : Addr) (cdg : Value) (bg : List Stmt) (a : Str) (q : Str) (TT : (XK → Hp → VK → Prop) → Hp → VK → Prop) : Prop :=
  ∀ (f c' : Addr) (s : Shared) (H : Hp) (Q : VK) (tl : XK → Hp → VK → Prop),
    (∀ (W : WX) (pn : List (Addr × Obj)) (xe : Value → Shared → Prop) (E : XK) (p1 p2 : Pos), L2N.Takes ((cxOf CX0 X.prog X.w X.K X.mg X.base Ng x sg g cdg X.A X.stack s H E0).tr pn xe) W → (∀ cls d (σ' : L2.St) H', σ'.length = Ng.length → E cls d H' → W cls d σ' H') →
      PE ((cxOf CX0 X.prog X.w X.K X.mg X.base Ng x sg g cdg X.A X.stack s H E0).tr pn xe) (.Call (.Name a p1) [] [] p2) (fun σZ HZ Q => σZ[0]? = some (some (.ref f)) ∧ HZ c' = some (CodeO c' q) ∧ tl E HZ Q)) →
    H c' = some (CodeO c' q) → TT tl H Q →
    ∃ t, PSs (cxOf CX0 X.prog X.w X.K X.mg X.base Ng x sg g cdg X.A X.stack s H E0).nox bg t ∧ t { nx := fun _ H' => Q .non H', rt := Q } (L2.start Ng [.ref f]) H
theorem pe_lamcallN {X : Cx} {T : List (Addr × Str)} {TT : (XK → Hp → VK → Prop) → Hp → VK → Prop} {x a : Str} {g c P : Addr} {k : Nat} {stg : Stmt} {fd : FuncData} {Ng : List Str}
    {params : Arguments} {body : Expr} {scope : Scope} {t : XK → TE} {p lpos pos : Pos} (hg : Gl X x) (hm : X.mg x = some (.ref g)) (F : L2.Fun X.K x x stg g fd) (hb : L2.Binds X.K fd [a] []) (Sg : FnScope Ng [a] (defScope stg)) (hNg : Ng[0]? = some a) (hva : Vis (defScope stg) a)
    (hG : ∀ cdg : Value, GivesN X Ng x (defScope stg) g cdg (defBody stg) a (X.env.qual ++ "<lambda>") TT)
    (TB : TabB X.base X.mg c P) (hcode : X.env.code = .ref c) (hmT : (P, X.env.qual ++ "<lambda>") ∈ T) (hu : ∀ p ∈ T, p.1 = P → p.2 = X.env.qual ++ "<lambda>") (hr : Room (k + 2) X.A) (L : LamS X.env.scope scope) (hdef : defaultsOf params X.env = ([], []))
    (hbind : ∀ (q : Str) (cl : List (Str × Addr)) (pm cv ctv : Value), bindArgs (PySem.W.kla_fn "<lambda>" q params body scope cl pm cv ctv) ⟨[], []⟩ = pure [])
    (hbody : ∀ (A : Around) (outer : List Env) (s : Shared) (H : Hp) (E : XK) (f c' : Addr), Room k (A.deeper (lamEnv X scope s.heap.objs.size f c')) → PE (lamCxN X A outer s H E scope f c') body (t E))
    (hdb : (x == ("__debug__" : Str)) = false := by decide) (hd : (a == ("__debug__" : Str)) = false := by decide) (hcd : (a == ("__classdict__" : Str)) = false := by decide) :
    PE X (.Call (.Name x p) [.Lambda params body scope lpos] [] pos) (LamX.tLam T TT t) := by
  refine ⟨fun pins s σ H Q I h => ?_⟩
  obtain ⟨hT, h⟩ := h
  obtain ⟨oc, od, kV, doc, pm, an, cdv, ct, osl, rfl, lk, hcg⟩ := F.ex
  refine wpAny_Call_Name_kw (ld_glob I hg hm ?_ hdb)
  refine PySem.W.callWith_K (h₀ := X.base) I.ok.mod.kin F.kp ?_ (by rfl) (by rfl)
  show wpAny _ _ (spliced ((false, eval (.Lambda params body scope lpos) X.env) :: backTo pos (starEach [] X.env))) _ _ s
  refine Calls.spliced_cons (LamX.lam_make2 I TB hcode hmT hu hT hdef (L.has I.ok) fun f c' pm' ctv H1 s' I1 eN T1 hf hfn hfr hco => ?_)
  refine Calls.spliced_nil ⟨I1.kIn, ?_⟩
  have rc : codeAny (model X.prog X.w) X.A (.call (.ref g) ⟨[.ref f], []⟩) (CR CX0 X.stack X.prog X.w H1 s' Q E0) s' := by
    refine LamX.run_ofS (N := Ng) (ps := [a]) (us := [.ref f]) (vs := [.ref f]) lk hcg Sg hr I1.env0 (hb s' [.ref f] I1.kIn rfl) (.cons rfl .nil) rfl fun hr' => ?_
    obtain ⟨t', ht', hq'⟩ := hG cdv f c' s' H1 Q (fun E H' Q' => t E σ H' Q') (fun W pn xe E p1 p2 tk hW => pe_actN (i := 0) I1 L hf hfn hfr (hbind _ _ _ _ _) tk hW hr' (fun A outer s H hr2 => hbody A outer s H E f c' hr2) hNg hva hd hcd) hco (h H1 eN T1)
    exact ⟨t', ht'.nox, hq'⟩
  refine wpAny_call (codeAny_mono rc fun r s2 hq => ?_)
  cases r with
  | error e => exact (show False from hq).elim
  | ok fl =>
    cases fl with
    | ret u => exact I1.after hq
    | next => exact False.elim hq
    | brk => exact False.elim hq
    | cont => exact False.elim hq
end DL
set_option maxHeartbeats 4000000
/-! DX5: the law's try: what it tells, and what of an exception. -/
namespace DL
open PySem PySem.Spec PyProof.Rows L2
open LamX (CodeO Tabs TabB ExtN LamS lamCx lamEnv)
/-- a class whose instances the first clause passes on and the second takes -/
structure TryC (K : PySem.W.Frag) (c1 c2 : Value) (D0 : Addr) : Prop where
  ex : ExcC K D0
  e1 : PySem.W.exmOne K (.ref D0) c1 = some false
  e2 : PySem.W.exmOne K (.ref D0) c2 = some true
theorem takes0N {X : Cx} : L2N.Takes X (fun _ _ _ _ => False) := fun _ _ x => by
  obtain ⟨_, _, _, _, _, _, _, _, _, _, _, _, _, _, _, _, z⟩ := x
  exact z.elim
section
variable {T : List (Addr × Str)} {Kin : Addr → Str → Prop}
def TTry (K : PySem.W.Frag) (T : List (Addr × Str)) (Kin : Addr → Str → Prop) (c1 c2 : Value) : (XK → Hp → VK → Prop) → Hp → VK → Prop := fun tl H Q =>
  tl (fun cls d H' => d = none ∧ ∃ (D0 : Addr) (txt : Str) (W : Wd) (Φ : D → MS → Prop), cls = .ref D0 ∧ TryC K c1 c2 D0 ∧ Kin D0 txt ∧ W.H = H' ∧ WOk T W ∧ Φ (.str txt) W.mu ∧ TrQ T W Φ Q) H
    (fun v H1 => [V.str "told", v].length ≤ sizeLine ∧ ∀ p, H1 p = none → ∃ u, (some (some (V.ref p)) : Option (Option V)) = some (some u) ∧ Q u (upd H1 p (.tup [V.str "told", v])))
theorem try_gives {X : Cx} {x q xk pa t1 t2 : Str} {sg : Scope} {g : Addr} {cdg c1 c2 : Value} {j0 j1 k1 : Nat} {b1 : Stmt} {bs1 : List Stmt} {p0 p1 p2 p3 p4 p5 p6 p7 p8 p9 p10 p11 p12 p13 p14 p15 p16 p17 p18 p19 p20 : Pos}
    (hr : Room 2 X.A) (C : KinP X.prog X.w X.K X.mg X.base T 1 xk pa Kin) (S : FnScope ["call_so", "found", "e"] ["call_so"] sg) (s1 : sg.names.lookup ("call_so" : Str) = some .local) (s2 : sg.names.lookup ("found" : Str) = some .local) (s3 : sg.names.lookup ("e" : Str) = some .local)
    (g1 : sg.names.lookup xk = some .globalImplicit) (g2 : sg.names.lookup t1 = some .globalImplicit) (g3 : sg.names.lookup t2 = some .globalImplicit) (m1 : X.mg t1 = some c1) (m2 : X.mg t2 = some c2)
    (d1 : (t1 == ("__debug__" : Str)) = false := by decide) (d2 : (t2 == ("__debug__" : Str)) = false := by decide) (dk : (xk == ("__debug__" : Str)) = false := by decide) :
    GivesN X ["call_so", "found", "e"] x sg g cdg
      [.Assign [.Name "found" p0] (.Constant .none j0 p1) p2,
       .Try [.Assign [.Name "found" p3] (.Tuple [.Constant (.str "told") j1 p4, .Call (.Name "call_so" p5) [] [] p6] k1 p7) p8]
         [.ExceptHandler (some (.Name t1 p9)) (some "e") (b1 :: bs1) p10, .ExceptHandler (some (.Name t2 p11)) (some "e") [.Assign [.Name "found" p12] (.Call (.Name xk p13) [.Name "e" p14] [] p15) p16] p17] [] [] p18,
       .Return (some (.Name "found" p19)) p20] "call_so" q (TTry X.K T Kin c1 c2) := by
  intro f c' s H Q tl act hc h
  have l1 : Vis sg "found" := .inl s2
  have hZ : ∀ (Y : Cx), Y.env.scope = sg → Gl Y t1 ∧ Gl Y t2 ∧ Gl Y xk := fun Y e => ⟨by unfold Gl Env.kindOf; rw [e]; exact g2, by unfold Gl Env.kindOf; rw [e]; exact g3, by unfold Gl Env.kindOf; rw [e]; exact g1⟩
  refine ⟨_, pss_cons (ps_set (i := 1) S.nd rfl (.inl s2) pe_non) (pss_cons (ps_try_asMany (X := (cxOf CX0 X.prog X.w X.K X.mg X.base ["call_so", "found", "e"] x sg g cdg X.A X.stack s H E0).nox)
      (l := [(c1, 2, fun _ _ _ => fun _ _ _ => False), (c2, 2, fun a cls d => tAsg (tKin X.K T Kin 2 a cls d) (gName 1))])
      (tb := fun W D σ H => ∃ E : XK, (∀ cls d (σ' : L2.St) H', σ'.length = 3 → E cls d H' → W cls d σ' H') ∧ tAsg (tTup (tCons (tC (.str "told")) (tCons (fun σZ HZ Q => σZ[0]? = some (some (.ref f)) ∧ HZ c' = some (CodeO c' q) ∧ tl E HZ Q) tNil))) (gName 1) D σ H)
      S.nd rfl rfl takes0N (fun W pn xe tk _ => ?_) (.cons (i := 2) rfl s3 ⟨(hZ _ rfl).1, d1, .inl m1⟩ (fun a oe cls d pn _ _ => ⟨fun _ _ _ _ _ _ z => z.elim⟩) (.cons (i := 2) rfl s3 ⟨(hZ _ rfl).2.1, d2, .inl m2⟩ (fun a oe cls d pn hz hf => ?_) .nil))) (pss_one (ps_ret (pe_var (i := 1) rfl l1 (by decide) (by decide))))), ?_⟩
  · refine ⟨fun pins s' σ H' D I h' => ?_⟩
    obtain ⟨E, hW, h3⟩ := h'
    have hp := act W pn xe E p5 p6 tk hW
    exact (pss_one (ps_set (i := 1) S.nd rfl (.inl s2) (pe_tup (pa_cons pe_str (pa_cons hp pa_nil))))).run pins s' σ H' D I h3
  · exact pss_one (ps_set (i := 1) S.nd rfl (.inl s2) (pe_kin (i := 2) (n := "e") C (hr.deeper _) hz hf (hZ _ rfl).2.2 rfl (.inl s3) (by decide) (by decide) dk))
  · refine ⟨_, fun cls d σ' H' hl hE => ?_, rfl, hc, h⟩
    obtain ⟨hd, D0, txt, W, Φ, rfl, tc, hk, e1, ok, hΦ, tq⟩ := hE
    refine ⟨false, tc.e1, (fun z => nomatch z), fun _ => ⟨true, tc.e2, fun _ a _ => ?_, (fun z => nomatch z)⟩⟩
    match σ', hl with
    | [x0, x1, x2], _ =>
      exact ⟨rfl, hd, D0, txt, W, Φ, rfl, tc.ex, hk, e1, ok, hΦ, fun W' d v l ok' r h => ⟨v, rfl, tq W' d v l ok' r h⟩⟩
/-- told: what the lambda's body tells, or the naming of what it raises -/
def wTry (K : PySem.W.Frag) (Kin : Addr → Str → Prop) (c1 c2 : Value) (wb : DW) : DW := fun ρ mu Φ _ => wb ρ mu (fun d mu1 => Φ (.tup [.str "told", d]) mu1) (fun cls fs mu1 => fs = [] ∧ ∃ (D0 : Addr) (txt : Str), cls = .ref D0 ∧ TryC K c1 c2 D0 ∧ Kin D0 txt ∧ Φ (.str txt) mu1)
theorem Le.tbl {W : Wd} {H1 : Hp} (eN : ExtN W.H H1) (ok : WOk T W) : Le W { W with H := H1 } := by
  refine ⟨⟨[], by simp⟩, rfl, fun a ha nt => ?_, fun a o h n t => eN a o h t, fun a o h n t q => n q⟩
  obtain ⟨o, e, n⟩ := ok.tr a (List.mem_append_right _ ha)
  show H1 a = W.H a
  rw [e]
  exact eN a o e n
theorem WOk.tbl {W : Wd} {H1 : Hp} (eN : ExtN W.H H1) (ok : WOk T W) (hT : Tabs T H1) : WOk T { W with H := H1 } := by
  refine ⟨ok.len, ok.nd, fun a ha => ?_, ok.dj, fun k a o h1 h2 => ?_, hT⟩
  · obtain ⟨o, e, n⟩ := ok.tr a ha
    exact ⟨o, eN a o e n, n⟩
  · have z := ok.ob k a o h1 h2
    cases o with
    | gone => trivial
    | lst xs =>
      obtain ⟨vs, e1, e2⟩ := z
      exact ⟨vs, eN _ _ e1 (fun ps z => by cases z), RepL.mono (Le.tbl eN ok) _ _ e2⟩
    | ins C fs =>
      obtain ⟨dx, vs, e1, e2⟩ := z
      exact ⟨dx, vs, eN _ _ e1 (fun ps z => by cases z), RepF.mono (Le.tbl eN ok) e2⟩
    | dk fs =>
      obtain ⟨vs, e1, e2⟩ := z
      exact ⟨vs, eN _ _ e1 (fun ps z => by cases z), RepF.mono (Le.tbl eN ok) e2⟩
    | dt fs =>
      obtain ⟨vs, e1, e2⟩ := z
      exact ⟨vs, eN _ _ e1 (fun ps z => by cases z), RepF.mono (Le.tbl eN ok) e2⟩
    | lk od vs fs => exact ⟨eN _ _ z.1 (fun ps z => by cases z), RepF.mono (Le.tbl eN ok) z.2⟩
    | lt od vs fs => exact ⟨eN _ _ z.1 (fun ps z => by cases z), RepF.mono (Le.tbl eN ok) z.2⟩
theorem sim_try {K : PySem.W.Frag} {c1 c2 : Value} {wb : DW} {E : XK} {σ : L2.St} {H : Hp} {Q : VK} (h : tOf T E (wTry K Kin c1 c2 wb) σ H Q) : LamX.tLam T (TTry K T Kin c1 c2) (fun E => tOf T E wb) σ H Q := by
  obtain ⟨W, ρ, Φ, Ξ, rfl, ok, re, hw, tq, tx⟩ := h
  refine ⟨ok.tabs, fun H1 eN hT => ?_⟩
  have l1 := Le.tbl eN ok
  have ok1 : WOk T { W with H := H1 } := WOk.tbl eN ok hT
  refine ⟨{ W with H := H1 }, ρ, _, _, rfl, ok1, re.mono l1, hw, fun W2 d v l2 ok2 r2 h2 => ?_, fun W2 cls d fs l2 ok2 r2 h2 => ?_⟩
  · refine ⟨by show 2 ≤ sizeLine; decide, fun p hp => ⟨_, rfl, ?_⟩⟩
    exact (tq.mono (l1.trans l2)).tup ok2 (.cons .str (.cons r2 .nil)) h2 p hp
  · obtain ⟨rfl, D0, txt, rfl, tc, hk, hΦ⟩ := h2
    refine ⟨?_, D0, txt, W2, Φ, rfl, tc, hk, rfl, ok2, hΦ, tq.mono (l1.trans l2)⟩
    cases d with
    | none => rfl
    | some a => exact absurd rfl r2.1
end
end DL
set_option maxHeartbeats 4000000
/-! DX6: the law's try, bundled; a call of a local name that holds one of some defs. -/
namespace DL
open PySem PySem.Spec PyProof.Rows L2
open LamX (CodeO Tabs TabB ExtN LamS lamCx lamEnv)
abbrev NgT : List Str := ["call_so", "found", "e"]
/-- what is known of the law's try -/
structure TryE (P : Program) (w : World) (K : PySem.W.Frag) (mg : Str → Option Value) (base : Heap) (T : List (Addr × Str)) (Kin : Addr → Str → Prop) (c1 c2 : Value) (x : Str) : Prop where
  ex : ∃ (g : Addr) (fd : FuncData) (stg : Stmt), mg x = some (.ref g) ∧ L2.Fun K x x stg g fd ∧ L2.Binds K fd ["call_so"] [] ∧ FnScope NgT ["call_so"] (defScope stg) ∧ Vis (defScope stg) "call_so" ∧
    ∀ X : Cx, X.prog = P → X.w = w → X.K = K → X.mg = mg → X.base = base → Room 2 X.A → ∀ (cdg : Value) (q : Str), GivesN X NgT x (defScope stg) g cdg (defBody stg) "call_so" q (TTry K T Kin c1 c2)
/-- what is known of a def (or a block) that makes lambdas -/
structure LamE (base : Heap) (mg : Str → Option Value) (T : List (Addr × Str)) (q : Str) (c : Addr) : Prop where
  ex : ∃ P : Addr, TabB base mg c P ∧ (P, q ++ "<lambda>") ∈ T ∧ ∀ p ∈ T, p.1 = P → p.2 = q ++ "<lambda>"
section
variable {X : Cx} {T : List (Addr × Str)} {Kin : Addr → Str → Prop} {c1 c2 : Value} {E : XK}
theorem de_try {x : Str} {c : Addr} {k : Nat} {params : Arguments} {body : Expr} {scope : Scope} {wb : DW} {p lpos pos : Pos} (Y : TryE X.prog X.w X.K X.mg X.base T Kin c1 c2 x) (hg : Gl X x) (M : LamE X.base X.mg T X.env.qual c) (hcode : X.env.code = .ref c) (hr : Room (k + 2) X.A)
    (L : LamS X.env.scope scope) (hdef : defaultsOf params X.env = ([], [])) (hbind : ∀ (q : Str) (cl : List (Str × Addr)) (pm cv ctv : Value), bindArgs (PySem.W.kla_fn "<lambda>" q params body scope cl pm cv ctv) ⟨[], []⟩ = pure [])
    (hbody : ∀ (A : Around) (outer : List Env) (s : Shared) (H : Hp) (E : XK) (f c' : Addr), Room k (A.deeper (lamEnv X scope s.heap.objs.size f c')) → PE (lamCxN X A outer s H E scope f c') body (tOf T E wb)) (hdb : (x == ("__debug__" : Str)) = false := by decide) :
    PE X (.Call (.Name x p) [.Lambda params body scope lpos] [] pos) (tOf T E (wTry X.K Kin c1 c2 wb)) := by
  obtain ⟨g, fd, stg, hm, F, hb, Sg, hv, G⟩ := Y.ex
  obtain ⟨P, TB, hmT, hu⟩ := M.ex
  exact (pe_lamcallN hg hm F hb Sg rfl hv (fun cdg => G X rfl rfl rfl rfl rfl (hr.mono (Nat.le_add_left 2 k)) cdg _) TB hcode hmT hu hr L hdef hbind hbody hdb).imp fun _ _ _ h => sim_try h
/-- in a lambda's body, in a raising def: what a callee lets out is let out -/
theorem hxL {A : Around} {outer : List Env} {s : Shared} {H : Hp} {scope : Scope} {f c' : Addr} : Passes (L2N.CX X.prog X.w) (lamCxN X A outer s H E scope f c') E :=
  L2N.passes_call (X := lamCxN X A outer s H E scope f c') (W := fun cls d _ H => E cls d H) (L2N.takes_of rfl rfl rfl rfl) (fun _ _ _ _ h => h)
theorem hxC {P : Program} {w : World} {K : PySem.W.Frag} {mg : Str → Option Value} {base : Heap} {N : List Str} {q : Str} {sc : Scope} {f : Addr} {cd : Value} {A : Around} {outer : List Env} {s : Shared} {H : Hp} {E : XK} : Passes (L2N.CX P w) (cxOf (L2N.CX P w) P w K mg base N q sc f cd A outer s H E) E :=
  L2N.passes_call (X := cxOf (L2N.CX P w) P w K mg base N q sc f cd A outer s H E) (W := fun cls d _ H => E cls d H) (L2N.takes_of rfl rfl rfl rfl) (fun _ _ _ _ h => h)
theorem tkC {P : Program} {w : World} {K : PySem.W.Frag} {mg : Str → Option Value} {base : Heap} {N : List Str} {q : Str} {sc : Scope} {f : Addr} {cd : Value} {A : Around} {outer : List Env} {s : Shared} {H : Hp} {E : XK} : L2N.Takes (cxOf (L2N.CX P w) P w K mg base N q sc f cd A outer s H E) (fun cls d _ H => E cls d H) := L2N.takes_of rfl rfl rfl rfl
/-! ### a local name that holds one of some defs -/
def wCallV (mg : Str → Option Value) (cs : List (Str × DSp)) (i : Nat) (wr : DWA) : DW := fun ρ mu Φ Ξ => ∃ n S, (n, S) ∈ cs ∧ gt ρ i = some (clD mg n) ∧ wr ρ mu (fun ds mu1 => S ds mu1 Φ Ξ) Ξ
def wCallV0 (mg : Str → Option Value) (cs : List (Str × DSp)) (i : Nat) (wr : DWA) : DW := fun ρ mu Φ Ξ => ∃ n S, (n, S) ∈ cs ∧ gt ρ i = some (clD mg n) ∧ wr ρ mu (fun ds mu1 => S ds mu1 Φ X0) Ξ
theorem de_callV {k i n : Nat} {cs : List (Str × DSp)} {x : Str} {p pos : Pos} {e : Expr} {es : List Expr} {wr : DWA} (A : ∀ nm S, (nm, S) ∈ cs → ∃ ps, Cal X.prog X.w X.K X.mg X.base (L2N.CX X.prog X.w) k nm ps (toSp T S)) (hr : Room k X.A) (hN : X.N[i]? = some x) (hv : Vis X.env.scope x)
    (hx : Passes (L2N.CX X.prog X.w) X E) (ha : PA X (e :: es) (tOfA T E n wr)) (hdb : (x == ("__debug__" : Str)) = false := by decide) (hcd : (x == ("__classdict__" : Str)) = false := by decide)
    (he : starEach (e :: es) X.env = (false, eval e X.env) :: starEach es X.env := by rfl) (hpl : (backTo pos (starEach es X.env)).any (·.1) = false := by rfl) : PE X (.Call (.Name x p) (e :: es) [] pos) (tOf T E (wCallV X.mg cs i wr)) := by
  refine ⟨fun pins s σ H Q I h => ?_⟩
  obtain ⟨W, ρ, Φ, Ξ, e1, ok, re, ⟨nm, S, hm, hgt, hw⟩, tq, tx⟩ := h
  obtain ⟨ps, C⟩ := A nm S hm
  obtain ⟨f, fd, F, hm2, hk, hb⟩ := C.ex
  obtain ⟨v, h1, h2⟩ := re.2 i _ hgt
  have ec : clD X.mg nm = .ref f := by unfold clD; rw [hm2]
  rw [ec] at h2
  rw [h2.ref_of] at h1
  refine (pe_callL (i := i) F hr hN hv hk hb .nil hx ha hdb hcd he hpl).run pins s σ H Q I ⟨h1, W, ρ, _, Ξ, e1, ok, re, hw, fun W1 ds vs l1 ok1 r1 hl h3 => ?_, tx⟩
  show toSp T S (vs ++ []) W1.H Q E
  rw [List.append_nil]
  exact ⟨W1, ds, Φ, Ξ, rfl, ok1, r1, h3, tq.mono l1, tx.mono l1⟩
theorem de_callV0 {k i n : Nat} {cs : List (Str × DSp)} {x : Str} {p pos : Pos} {e : Expr} {es : List Expr} {wr : DWA} (A : ∀ nm S, (nm, S) ∈ cs → ∃ ps, Cal X.prog X.w X.K X.mg X.base CX0 k nm ps (toSp T S)) (hr : Room k X.A) (hN : X.N[i]? = some x) (hv : Vis X.env.scope x)
    (ha : PA X (e :: es) (tOfA T E n wr)) (hdb : (x == ("__debug__" : Str)) = false := by decide) (hcd : (x == ("__classdict__" : Str)) = false := by decide)
    (he : starEach (e :: es) X.env = (false, eval e X.env) :: starEach es X.env := by rfl) (hpl : (backTo pos (starEach es X.env)).any (·.1) = false := by rfl) : PE X (.Call (.Name x p) (e :: es) [] pos) (tOf T E (wCallV0 X.mg cs i wr)) := by
  refine ⟨fun pins s σ H Q I h => ?_⟩
  obtain ⟨W, ρ, Φ, Ξ, e1, ok, re, ⟨nm, S, hm, hgt, hw⟩, tq, tx⟩ := h
  obtain ⟨ps, C⟩ := A nm S hm
  obtain ⟨f, fd, F, hm2, hk, hb⟩ := C.ex
  obtain ⟨v, h1, h2⟩ := re.2 i _ hgt
  have ec : clD X.mg nm = .ref f := by unfold clD; rw [hm2]
  rw [ec] at h2
  rw [h2.ref_of] at h1
  refine (pe_callL (i := i) (E := E0) F hr hN hv hk hb .nil pass0 ha hdb hcd he hpl).run pins s σ H Q I ⟨h1, W, ρ, _, Ξ, e1, ok, re, hw, fun W1 ds vs l1 ok1 r1 hl h3 => ?_, tx⟩
  show toSp T S (vs ++ []) W1.H Q E0
  rw [List.append_nil]
  exact ⟨W1, ds, Φ, X0, rfl, ok1, r1, h3, tq.mono l1, TrX.none⟩
/-- the defs that a local name may hold, one by one -/
theorem cands_nil {P : Program} {w : World} {K : PySem.W.Frag} {mg : Str → Option Value} {base : Heap} {CX : CXT} {k : Nat} : ∀ nm S, (nm, S) ∈ ([] : List (Str × DSp)) → ∃ ps, Cal P w K mg base CX k nm ps (toSp T S) := fun _ _ h => by cases h
theorem Cal.mono {P : Program} {w : World} {K : PySem.W.Frag} {mg : Str → Option Value} {base : Heap} {CX : CXT} {j k : Nat} {x : Str} {ps : List Str} {sp : Sp} (C : Cal P w K mg base CX j x ps sp) (h : j ≤ k) : Cal P w K mg base CX k x ps sp := by
  obtain ⟨f, fd, F, hm, hk, hb⟩ := C.ex
  exact ⟨f, fd, ⟨F.len, fun A outer s H args us vs Q E hr => F.run A outer s H args us vs Q E (hr.mono h)⟩, hm, hk, hb⟩
theorem cands_cons {P : Program} {w : World} {K : PySem.W.Frag} {mg : Str → Option Value} {base : Heap} {CX : CXT} {j k : Nat} {x : Str} {ps : List Str} {S : DSp} {cs : List (Str × DSp)} (C : Cal P w K mg base CX j x ps (toSp T S)) (h : j ≤ k)
    (r : ∀ nm S, (nm, S) ∈ cs → ∃ ps, Cal P w K mg base CX k nm ps (toSp T S)) : ∀ nm S', (nm, S') ∈ (x, S) :: cs → ∃ ps, Cal P w K mg base CX k nm ps (toSp T S') := fun nm S' hm => by
  rcases List.mem_cons.mp hm with e | e
  · cases e
    exact ⟨ps, C.mono h⟩
  · exact r nm S' e
/-- the value of a name that means a def of the module -/
theorem de_fun {x : Str} {pos : Pos} {CX : CXT} {k : Nat} {ps : List Str} {sp : Sp} (C : Cal X.prog X.w X.K X.mg X.base CX k x ps sp) (hg : Gl X x) (hd : (x == ("__debug__" : Str)) = false := by decide) : PE X (.Name x pos) (tOf T E (wC (clD X.mg x))) := by
  obtain ⟨f, fd, F, hm, hk, hb⟩ := C.ex
  exact de_cls hg ⟨f, hm⟩ hd
end
/-! ### a def that makes lambdas -/
structure DfL (K : PySem.W.Frag) (mg : Str → Option Value) (x : Str) (st : Stmt) (ps : List Str) (c : Addr) : Prop where
  ex : ∃ (f : Addr) (oc : Value) (od : Option Addr) (kV doc pm : Value) (an : Option Addr) (ct : Value) (osl : Array (Option Value)), K.lookup f = some ⟨oc, od, .func (PySem.W.fnOf x x (defArgs st) (defBody st) (defScope st) .none kV doc pm an (.ref c) ct), osl⟩ ∧
    PySem.W.codeIn K (.ref c) x = true ∧ PySem.W.keepIn K (.ref f) = true ∧ mg x = some (.ref f) ∧ Binds K (PySem.W.fnOf x x (defArgs st) (defBody st) (defScope st) .none kV doc pm an (.ref c) ct) ps []
section
variable {P : Program} {w : World} {K : PySem.W.Frag} {mg : Str → Option Value} {base : Heap} {T : List (Addr × Str)}
theorem calL {x : Str} {st : Stmt} {N ps : List Str} {k : Nat} {S : DSp} {b : DWS} {c : Addr} (F : DfL K mg x st ps c) (sc : FnScope N ps (defScope st)) (len : ∀ ds mu Φ Ξ, S ds mu Φ Ξ → ds.length = ps.length)
    (hbody : ∀ (f : Addr) (A : Around) (outer : List Env) (s : Shared) (H : Hp), Room k (A.deeper (envOfC x (defScope st) s.heap.objs.size f (.ref c))) → PSs (cxOf CX0 P w K mg base N x (defScope st) f (.ref c) A outer s H E0).nox (defBody st) (tOfS T E0 b))
    (hw : ∀ ds mu Φ, S ds mu Φ X0 → b (startD N.length ds) mu ⟨fun _ mu' => fin mu Φ .non mu', fin mu Φ, fun _ _ => False, fun _ _ => False⟩ X0) (hS : ∀ ds mu Φ Ξ, S ds mu Φ Ξ → S ds mu Φ X0) : Cal P w K mg base CX0 (k + 1) x ps (toSp T S) := by
  obtain ⟨f, oc, od, kV, doc, pm, an, ct, osl, lk, hcd, hkp, hm, hb⟩ := F.ex
  refine ⟨f, _, fn_of (N := N) lk hcd sc (fun vs H Q E h => ?_) (fun A outer s H vs Q E hr h => ?_), hm, hkp, hb⟩
  · obtain ⟨W, ds, Φ, Ξ, e1, ok, r, hs, _⟩ := h
    rw [r.length]
    exact len ds W.mu Φ Ξ hs
  · obtain ⟨W, ds, Φ, Ξ, e1, ok, r, hs, tq, tx⟩ := h
    have hE : (cxOf CX0 P w K mg base N x (defScope st) f (.ref c) A outer s H E).nox = (cxOf CX0 P w K mg base N x (defScope st) f (.ref c) A outer s H E0).nox := rfl
    have hl := len ds W.mu Φ Ξ hs
    have hpl : ps.length ≤ N.length := by have := congrArg List.length sc.pre; rw [List.length_take] at this; omega
    refine ⟨tOfS T E0 b, (hE ▸ hbody f A outer s H hr : PSs (cxOf CX0 P w K mg base N x (defScope st) f (.ref c) A outer s H E).nox _ _).nox, W, startD N.length ds, _, X0, e1, ok, repE_start r (by omega), hw ds W.mu Φ (hS _ _ _ _ hs), ?_, TrX.none⟩
    exact ⟨fun W' σ' ρ' l ok' re h => fin_tr ok tq W' .non .non l ok' .non h, fin_tr ok tq, fun _ _ _ _ _ _ z => z.elim, fun _ _ _ _ _ _ z => z.elim⟩
end
/-- the names of a caught exception, as the law's naming def puts them together -/
def kinNames : List Str := ["InvalidPlan", "InvalidLevel", "InvalidCount", "InvalidLog", "InvalidText", "InvalidFactor", "InvalidPair", "InvalidDraw", "InvalidDraws", "NotSmooth", "NotFalling", "Unlike", "NothingToUndo", "TooMany"]
def kinLabels : List Str := ["plan", "level", "count", "log", "text", "factor", "pair", "draw", "draws", "smooth", "falling", "unlike", "undo", "many", "+"]
def kinText (bs : List Bool) : Str := Txt.join " " ((kinLabels.zip bs).filterMap fun p => if p.2 then some p.1 else none)
/-- what isinstance says of an instance of the class at D0, name by name, ValueError last -/
structure KinR (K : PySem.W.Frag) (mg : Str → Option Value) (D0 : Addr) (txt : Str) : Prop where
  ex : ∃ bs : List Bool, bs.length = 15 ∧ (∀ (i : Nat) (n : Str), kinNames[i]? = some n → ∃ v, clsV (clD mg n) = some v ∧ PySem.W.kitOne K (.ref D0) v = some (bs.getD i false)) ∧ PySem.W.kitOne K (.ref D0) (.type "ValueError") = some (bs.getD 14 false) ∧ txt = kinText bs
end DL
set_option maxHeartbeats 4000000
/-! DE1: enumerate of a tuple (the rows follow PyProof.EnumIter and HandS.Iter). -/
namespace DL
open PySem PySem.Spec PyProof.Rows L2
open Sem (wp)
open AutoSeq1 (wpAny_loadPart')
theorem meets_enumerate_newT (l : Addr) (items : Array Value) (n : Nat) :
    Meets (Builtin.«enumerate.__new__» ⟨[.type "enumerate", .ref l], []⟩) (fun _ R s => s.heap.get? l = some { cls := .type "tuple", dict := none, data := .seq items n, slots := #[] } ∧
      R (.ok (.ret (.ref (s.heap.push { cls := .type "tuple_iterator", data := .fields #[.ref l, .int 0 0] }).objs.size)))
        { s with heap := (s.heap.push { cls := .type "tuple_iterator", data := .fields #[.ref l, .int 0 0] }).push { cls := .type "enumerate", data := .fields #[.none, .bool false, .ref s.heap.objs.size, rawInt 0, .none, .none] } }) :=
  .of_wp fun prog w A R s h => by
    obtain ⟨hp, g, d, tk, os⟩ := s; obtain ⟨hl, h⟩ := h
    have hsub := sub_enumerate
    have hL : Heap.IsTuple (Shared.heap ⟨hp, g, d, tk, os⟩) l items := ⟨_, hl, rfl, n, rfl⟩
    wp_walk using wpAny_loadPart' hl
    refine wpAny_stack_any fun st => wpAny_pure ?_
    split
    · rename_i c _ _ _ _ _
      cases (c == Value.type "enumerate")
      · wp_walk using wpAny_loadPart' hl, wpAny_pyIter_tuple hL
        exact ⟨_, rfl, h⟩
      · wp_walk using wpAny_loadPart' hl, wpAny_pyIter_tuple hL
        exact ⟨_, rfl, h⟩
    · wp_walk using wpAny_loadPart' hl, wpAny_pyIter_tuple hL
      exact ⟨_, rfl, h⟩

section
variable {prog : Program} {w : World} {A : Around} {E : Value → Shared → Prop} {s : Shared}
theorem enumerate_next_itemT {e it l : Addr} {i : Nat} {items : Array Value} {x old : Value} {Q : Value → Shared → Prop}
    (he : IsEnum s.heap e it i old) (hit : s.heap.IsTupleIter it l i) (hl : s.heap.IsTuple l items) (hx : items[i]? = some x) (hne : e ≠ it)
    (hQ : ∀ h', IsEnumOut h' e it ((i : Int) + 1) x s.heap.objs.size → h'.IsTupleIter it l (i + 1) →
      h'.get? s.heap.objs.size = some { cls := .type "tuple", data := .seq #[.int i s.toks, x] } → h'.objs.size = s.heap.objs.size + 1 →
      (∀ b o, b ≠ e → b ≠ it → s.heap.get? b = some o → h'.get? b = some o) → Q (.ref s.heap.objs.size) { s with heap := h', toks := s.toks + 1 }) :
    wpAny (model prog w) A (Builtin.«enumerate.__next__» ⟨[.ref e], []⟩) (fun fin s' => ∃ v, fin = .done (.ret v) ∧ Q v s') E s := by
  obtain ⟨hp, g, d, tk, os⟩ := s
  show wpAny _ _ (field (.ref e) 2 >>= _) _ _ _
  refine wpAny_bind (wpAny_field he rfl (x := .ref it) rfl ?_)
  refine wpAny_bind (RZ.nextOf_tuple_item hit hl hx fun h₁ hit₁ hs₁ => ?_)
  replace hs₁ : Heap.SameBut it hp h₁ := hs₁
  have he₁ : IsEnum h₁ e it i old := (hs₁.2 e hne).trans he
  show wpAny _ _ (field (.ref e) 3 >>= _) _ _ ⟨h₁, g, d, tk, os⟩
  refine wpAny_bind (wpAny_field he₁ rfl (x := rawInt i) rfl ?_)
  show wpAny _ _ (field (.ref e) 4 >>= _) _ _ ⟨h₁, g, d, tk, os⟩
  refine wpAny_bind (wpAny_field he₁ rfl (x := .none) rfl ?_)
  show wpAny _ _ (mkInt i >>= _) _ _ ⟨h₁, g, d, tk, os⟩
  refine wpAny_bind (wpAny_mkInt ?_)
  show wpAny _ _ (setField (.ref e) 3 (rawInt ((i : Int) + 1)) >>= _) _ _ ⟨h₁, g, d, tk + 1, os⟩
  refine wpAny_bind (wpAny_setField_rec he₁ (by simp) fun h₂ he₂ hs₂ => ?_)
  replace hs₂ : Heap.SameBut e h₁ h₂ := hs₂
  replace he₂ : IsEnum h₂ e it ((i : Int) + 1) old := he₂
  show wpAny _ _ (setField (.ref e) 4 .none >>= _) _ _ ⟨h₂, g, d, tk + 1, os⟩
  refine wpAny_bind (wpAny_setField_rec he₂ (by simp) fun h₃ he₃ hs₃ => ?_)
  replace hs₃ : Heap.SameBut e h₂ h₃ := hs₃
  replace he₃ : IsEnum h₃ e it ((i : Int) + 1) old := he₃
  show wpAny _ _ (newTuple [.int i tk, x] >>= _) _ _ ⟨h₃, g, d, tk + 1, os⟩
  refine wpAny_bind (wpAny_newTuple ?_)
  have he₄ : IsEnum (h₃.push { cls := .type "tuple", data := .seq #[.int i tk, x] }) e it ((i : Int) + 1) old := Heap.get?_push_of_some _ he₃
  generalize hh₄ : h₃.push { cls := .type "tuple", data := .seq #[.int i tk, x] } = h₄ at he₄
  have hsz : h₃.objs.size = hp.objs.size := by rw [hs₃.1, hs₂.1, hs₁.1]
  have hel : e < hp.objs.size := Heap.lt_size he
  have ht₄ : h₄.get? hp.objs.size = some { cls := .type "tuple", data := .seq #[.int i tk, x] } := by rw [← hh₄, ← hsz]; exact Heap.get?_push_size _ rfl
  have hz₄ : h₄.objs.size = hp.objs.size + 1 := by rw [← hh₄, Heap.size_push, hsz]
  have hk₄ : ∀ b o, b ≠ e → b ≠ it → hp.get? b = some o → h₄.get? b = some o := fun b o hbe hbi hb => by
    rw [← hh₄]; exact Heap.get?_push_of_some _ (hs₃.extBut b o hbe (hs₂.extBut b o hbe (hs₁.extBut b o hbi hb)))
  have hit₄ : h₄.IsTupleIter it l (i + 1) := by
    rw [← hh₄]; obtain ⟨o, ho, r⟩ := (hit₁.extBut hs₂.extBut (Ne.symm hne)).extBut hs₃.extBut (Ne.symm hne); exact ⟨o, Heap.get?_push_of_some _ ho, r⟩
  show wpAny _ _ (Builtin.SmallTypes.ownedTupleIsFree (.ref e) >>= _) _ _ ⟨h₄, g, d, tk + 1, os⟩
  rw [hsz]
  clear hh₄ he₃ hs₃ he₂ hs₂ he₁ hs₁ hit₁ hsz h₃ h₂ h₁
  refine wpAny_bind ?_
  · unfold Builtin.SmallTypes.ownedTupleIsFree
    refine wpAny_bind (wpAny_field he₄ rfl (x := .none) rfl (wpAny_pure ?_))
    simp only [if_true]
    refine wpAny_bind (wpAny_rule ?_)
    refine wpAny_bind (wpAny_field he₄ rfl (x := old) rfl ?_)
    refine wpAny_bind (wpAny_setField_rec he₄ (by simp) fun h₅ he₅ hs₅ => ?_)
    replace hs₅ : Heap.SameBut e h₄ h₅ := hs₅
    replace he₅ : IsEnum h₅ e it ((i : Int) + 1) x := he₅
    show wpAny _ _ (Builtin.SmallTypes.ownedTupleHandOut (.ref e) (.ref hp.objs.size) >>= _) _ _ ⟨h₅, g, d, tk + 1, os⟩
    refine wpAny_bind ?_
    · unfold Builtin.SmallTypes.ownedTupleHandOut
      refine wpAny_bind (wpAny_setField_rec he₅ (by simp) fun h₆ he₆ hs₆ => ?_)
      replace hs₆ : Heap.SameBut e h₅ h₆ := hs₆
      replace he₆ : IsEnumOut h₆ e it ((i : Int) + 1) x hp.objs.size := he₆
      refine wpAny_setField_rec he₆ (by simp) fun h₇ he₇ hs₇ => ?_
      replace hs₇ : Heap.SameBut e h₆ h₇ := hs₇
      replace he₇ : IsEnumOut h₇ e it ((i : Int) + 1) x hp.objs.size := he₇
      refine wpAny_bind (wpAny_letGo (wpAny_pure ⟨_, rfl, hQ h₇ he₇ ?_ ?_ ?_ ?_⟩))
      · exact ((hit₄.extBut hs₅.extBut (Ne.symm hne)).extBut hs₆.extBut (Ne.symm hne)).extBut hs₇.extBut (Ne.symm hne)
      · exact hs₇.extBut _ _ (Nat.ne_of_gt hel) (hs₆.extBut _ _ (Nat.ne_of_gt hel) (hs₅.extBut _ _ (Nat.ne_of_gt hel) ht₄))
      · rw [hs₇.1, hs₆.1, hs₅.1, hz₄]
      · exact fun b o hbe hbi hb => hs₇.extBut b o hbe (hs₆.extBut b o hbe (hs₅.extBut b o hbe (hk₄ b o hbe hbi hb)))

theorem wpAny_pyNext_enum_itemT {e it l : Addr} {i : Nat} {items : Array Value} {x old : Value} {Q : Option Value → Shared → Prop}
    (he : IsEnum s.heap e it i old) (hit : s.heap.IsTupleIter it l i) (hl : s.heap.IsTuple l items) (hx : items[i]? = some x) (hne : e ≠ it)
    (hQ : ∀ h', IsEnumOut h' e it ((i : Int) + 1) x s.heap.objs.size → h'.IsTupleIter it l (i + 1) →
      h'.get? s.heap.objs.size = some { cls := .type "tuple", data := .seq #[.int i s.toks, x] } → h'.objs.size = s.heap.objs.size + 1 →
      (∀ b o, b ≠ e → b ≠ it → s.heap.get? b = some o → h'.get? b = some o) → Q (some (.ref s.heap.objs.size)) { s with heap := h', toks := s.toks + 1 }) :
    wpAny (model prog w) A (pyNext (.ref e)) Q E s := by
  have hT : s.TypeIs (.ref e) "enumerate" := ⟨_, he, rfl⟩
  unfold pyNext
  exact wpAny_bind (wpAny_attempt (wpAny_callSpecial?_slot (name := Str.ofString "__next__") hT F.slot_enumerate_next
    (wpAny_call_entry F.slot_enumerate_next hT F.entry_enumerate_next
      (enumerate_next_itemT he hit hl hx hne fun h' a b c d k => wpAny_pure (hQ h' a b c d k)) (F.args_enumerate_next_1 _))))

theorem wpAny_pyNext_enum_endT {e it l : Addr} {i : Nat} {items : Array Value} {old : Value} {Q : Option Value → Shared → Prop} (hh : A.handled = none)
    (he : IsEnum s.heap e it i old) (hit : s.heap.IsTupleIter it l i) (hl : s.heap.IsTuple l items) (hx : items[i]? = none)
    (hQ : ∀ h', Heap.ExtBut it s.heap h' → Q none { s with heap := h' }) : wpAny (model prog w) A (pyNext (.ref e)) Q E s := by
  have hT : s.TypeIs (.ref e) "enumerate" := ⟨_, he, rfl⟩
  unfold pyNext
  refine wpAny_bind (wpAny_attempt (wpAny_callSpecial?_slot (name := Str.ofString "__next__") hT F.slot_enumerate_next
    (wpAny_call_entry F.slot_enumerate_next hT F.entry_enumerate_next ?_ (F.args_enumerate_next_1 _))))
  show wpAny _ _ (field (.ref e) 2 >>= _) _ _ _
  refine wpAny_bind (wpAny_field he rfl (x := .ref it) rfl ?_)
  refine wpAny_bind (RZ.nextOf_tuple_end hh hit hl hx fun h' x he' hx' => ?_)
  obtain ⟨o, ho, hc⟩ := hx'
  refine wpAny_bind (wpAny_isInstance (T := "StopIteration") (b := true) ⟨o, ho, hc⟩ isSubtype_stop ?_)
  exact wpAny_pure (hQ _ he')
end
theorem meets_enumerate_newLT (l : Addr) (items : Array Value) (n : Nat) (dct : Option Addr) (sl : Array (Option Value)) :
    Meets (Builtin.«enumerate.__new__» ⟨[.type "enumerate", .ref l], []⟩) (fun _ R s => s.heap.get? l = some { cls := .type "tuple", dict := dct, data := .seq items n, slots := sl } ∧
      R (.ok (.ret (.ref (s.heap.push { cls := .type "tuple_iterator", data := .fields #[.ref l, .int 0 0] }).objs.size)))
        { s with heap := (s.heap.push { cls := .type "tuple_iterator", data := .fields #[.ref l, .int 0 0] }).push { cls := .type "enumerate", data := .fields #[.none, .bool false, .ref s.heap.objs.size, rawInt 0, .none, .none] } }) :=
  .of_wp fun prog w A R s h => by
    obtain ⟨hp, g, d, tk, os⟩ := s; obtain ⟨hl, h⟩ := h
    have hsub := sub_enumerate
    have hL : Heap.IsTuple (Shared.heap ⟨hp, g, d, tk, os⟩) l items := ⟨_, hl, rfl, n, rfl⟩
    wp_walk using wpAny_loadPart' hl
    refine wpAny_stack_any fun st => wpAny_pure ?_
    split
    · rename_i c _ _ _ _ _
      cases (c == Value.type "enumerate")
      · wp_walk using wpAny_loadPart' hl, wpAny_pyIter_tuple hL
        exact ⟨_, rfl, h⟩
      · wp_walk using wpAny_loadPart' hl, wpAny_pyIter_tuple hL
        exact ⟨_, rfl, h⟩
    · wp_walk using wpAny_loadPart' hl, wpAny_pyIter_tuple hL
      exact ⟨_, rfl, h⟩

section
variable {prog : Program} {w : World} {A : Around} {E : Value → Shared → Prop} {s : Shared}
theorem call_enumerate_tuple {l : Addr} {items : Array Value} {Q : Value → Shared → Prop} (hL : s.heap.IsTuple l items)
    (h : ∀ h', IsEnum h' (s.heap.objs.size + 1) s.heap.objs.size 0 .none → h'.IsTupleIter s.heap.objs.size l 0 → h'.objs.size = s.heap.objs.size + 2 →
      (∀ b o, s.heap.get? b = some o → h'.get? b = some o) → Q (.ref (s.heap.objs.size + 1)) { s with heap := h' }) :
    wpAny (model prog w) A (call (.type "enumerate") [.ref l]) Q E s := by
  obtain ⟨⟨c, dct, dt, sl⟩, hl, hc, n, hd⟩ := hL
  replace hc : c = .type "tuple" := hc
  replace hd : dt = .seq items n := hd
  subst hc hd
  refine callType_new F.called_enumerate (by decide) (F.typeCall_enumerate_1 _) (F.newCall_enumerate_1 _) (fun obj => F.args_object_init_2 obj _) F.entry_enumerate_new
    (meets_enumerate_newLT l items n dct sl) ⟨hl, ?_⟩
  have hz : (s.heap.push { cls := .type "tuple_iterator", data := .fields #[.ref l, .int 0 0] }).objs.size = s.heap.objs.size + 1 := Heap.size_push ..
  show _ ∧ _
  rw [hz]
  have he : IsEnum ((s.heap.push { cls := .type "tuple_iterator", data := .fields #[.ref l, .int 0 0] }).push
      { cls := .type "enumerate", data := .fields #[.none, .bool false, .ref s.heap.objs.size, rawInt 0, .none, .none] }) (s.heap.objs.size + 1) s.heap.objs.size 0 .none := by
    have := Heap.get?_push_size (s.heap.push { cls := .type "tuple_iterator", data := .fields #[.ref l, .int 0 0] })
      (o := { cls := .type "enumerate", data := .fields #[.none, .bool false, .ref s.heap.objs.size, rawInt 0, .none, .none] }) rfl
    rw [hz] at this; exact this
  refine ⟨⟨_, he, rfl⟩, h _ he ⟨_, Heap.get?_push_of_some _ (Heap.get?_push_size _ rfl), rfl, rfl⟩ (by rw [Heap.size_push, hz]) fun b o x => Heap.get?_push_of_some _ (Heap.get?_push_of_some _ x)⟩

end
def IteT (K : PySem.W.Frag) (a : Addr) : It :=
  ⟨fun i H => ∃ (xs : List V) (x : V), SqT K H a xs ∧ xs[i]? = some x, fun i H v H' => ∃ T x, v = .ref T ∧ H T = none ∧ H' = upd H T (.tup [.int (i : Nat), x]) ∧ ∀ xs, SqT K H a xs → xs[i]? = some x, fun i H => ∃ xs : List V, SqT K H a xs ∧ xs.length ≤ i⟩
theorem turn_enumT {P : Program} {w : World} {K : PySem.W.Frag} {elts : List Expr} {kk : Nat} {tpos : Pos} (a e it : Addr) :
    Turn P w K (.Tuple elts kk tpos) (IteT K a) [e, it] e (fun i h => (∃ old, IsEnum h e it ((i : Nat) : Int) old) ∧ h.IsTupleIter it a i ∧ e ≠ it) where
  mem := by simp
  obj := fun i h st b hb => by
    obtain ⟨⟨old, he⟩, ⟨o, ho, hc, hd⟩, _⟩ := st
    have e' : b = e ∨ b = it := by simpa using hb
    rcases e' with z | z
    · rw [z]; exact ⟨_, he, fun v q => nomatch q⟩
    · rw [z]; exact ⟨o, ho, fun v q => by rw [hd] at q; cases q⟩
  keep := fun i h h' st k => let ⟨⟨old, he⟩, hi, hne⟩ := st; ⟨⟨old, k e (by simp) _ he⟩, hi.at fun o q => k it (by simp) o q, hne⟩
  item := by
    intro X hP hw hK hc i pins s σ H E I hf st hg
    subst hP hw hK
    obtain ⟨⟨old, he⟩, hit, hne⟩ := st
    obtain ⟨xs, x, hq, hx⟩ := hg
    obtain ⟨its, rv, p, _⟩ := I.tuple hq
    obtain ⟨u, hu, ru⟩ := rv.get hx
    have hel : e < s.heap.objs.size := Heap.lt_size he
    have hil : it < s.heap.objs.size := by obtain ⟨_, q, _⟩ := hit; exact Heap.lt_size q
    refine wpAny_pyNext_enum_itemT he hit p (x := u) (by simpa using hu) hne fun h' ho hit' hT hsz hk => ?_
    refine ⟨_, rfl, wpAny_letOwnedTupleGo_enum (s := { s with heap := h', toks := s.toks + 1 }) ho fun h'' he' sb => ?_⟩
    have hT2 : h''.get? s.heap.objs.size = some { cls := .type "tuple", data := .seq #[.int i s.toks, u] } := (sb.2 _ (Nat.ne_of_gt hel)).trans hT
    have new : ObjOk X.prog X.w (upd H s.heap.objs.size (.tup [.int (i : Nat), x])) h'' s.heap.objs.size (.tup [.int (i : Nat), x]) :=
      ⟨by show 2 ≤ sizeLine; decide, [.int i s.toks, u], .cons ⟨_, rfl⟩ (.cons ru .nil), ⟨_, hT2, rfl, _, rfl⟩⟩
    have I1 : Inv X pins σ (upd H s.heap.objs.size (.tup [.int (i : Nat), x])) { s with heap := h'', toks := s.toks + 1 } :=
      I.turnedNew (ch := [e, it]) (fun b ob hb q => (sb.2 b (fun z => hb (by simp [z]))).trans (hk b ob (fun z => hb (by simp [z])) (fun z => hb (by simp [z])) q)) hf (Nat.le_refl _) new
    refine ⟨.ref s.heap.objs.size, _, I1, rfl, ⟨_, x, rfl, I.hok.fresh (Nat.le_refl _), rfl, fun ys hy => by rw [I.tuple_inj hy hq]; exact hx⟩, ⟨⟨u, ?_⟩, hit'.at fun o q => (sb.2 it (Ne.symm hne)).trans q, hne⟩, fun b hb => ?_⟩
    · have e1 : ((i + 1 : Nat) : Int) = (i : Int) + 1 := by omega
      rw [e1]; exact he'
    · have hb' : b < s.heap.objs.size := by
        have e' : b = e ∨ b = it := by simpa using hb
        rcases e' with z | z
        · rw [z]; exact hel
        · rw [z]; exact hil
      rw [upd_ne (Nat.ne_of_lt hb')]
      exact (hf b hb).1
  done := by
    intro X hP hw hK hc i pins s σ H E I hf st hg
    subst hP hw hK
    obtain ⟨⟨old, he⟩, hit, hne⟩ := st
    obtain ⟨xs, hq, hx⟩ := hg
    obtain ⟨its, rv, p, _⟩ := I.tuple hq
    obtain ⟨f0, f1, f2, f3, f4, f5⟩ := hf it (by simp)
    have hl := rv.length
    exact wpAny_pyNext_enum_endT (I.ok.hd hc) he hit p (by simp; omega) fun h' eb => ⟨rfl, I.turned (t' := s.toks) (fun b o hb q => eb b o hb q) f0 f1 f3 f4 f5⟩
  self := fun A i s Q E st h => let ⟨⟨_, he⟩, _⟩ := st; wpAny_pyIter_enum he h

/-- enumerate of a list or of a tuple -/
def iEnumA (K : PySem.W.Frag) (ta : TA) : TI := fun σ H R => ta σ H fun vs H1 => ∃ a xs, vs = [.ref a] ∧ ((SqL K H1 a xs ∧ R (Ite K a) H1) ∨ (SqT K H1 a xs ∧ R (IteT K a) H1))
theorem pi_enumA {X : Cx} {e : Expr} {ta : TA} {p pos tpos : Pos} {elts : List Expr} {kk : Nat} (hg : Gl X "enumerate") (hm : X.mg "enumerate" = none) (ha : PA X [e] ta) (hs : starEach [e] X.env = [(false, eval e X.env)] := by rfl) :
    PI X (.Tuple elts kk tpos) (.Call (.Name "enumerate" p) [e] [] pos) (iEnumA X.K ta) := by
  refine ⟨fun pins s σ H R I h => ?_⟩
  refine Call_ (ld_blt I hg hm boot_enumerate (PyProof.Rows.callWith_type1 (thn (ha.run pos pins s σ H _ I h) fun us s1 ⟨vs, H1, I1, r1, q1⟩ => ?_) hs rfl))
  obtain ⟨a, xs, ex, q1⟩ := q1
  subst ex
  cases r1 with
  | cons r rr =>
    cases rr
    cases r
    have fresh2 : ∀ b, b ∈ [s1.heap.objs.size + 1, s1.heap.objs.size] → FpOk X pins H1 b := fun b hb => by
      have e' : b = s1.heap.objs.size + 1 ∨ b = s1.heap.objs.size := by simpa using hb
      have hle : s1.heap.objs.size ≤ b := by
        rcases e' with z | z
        · rw [z]; exact Nat.le_add_right _ _
        · rw [z]; exact Nat.le_refl _
      exact I1.fpOk hle (I1.hok.fresh hle)
    rcases q1 with ⟨hq, q⟩ | ⟨hq, q⟩
    · obtain ⟨its, rv, p', hz⟩ := I1.list hq
      refine call_enumerate_list p'.isList fun h' he hit hsz hk => wpAny_pyIter_enum he ?_
      have I2 : Inv X pins σ H1 { s1 with heap := h' } := I1.kept (t' := s1.toks) hk
      exact ⟨s1.heap.objs.size + 1, [s1.heap.objs.size + 1, s1.heap.objs.size], _, _, H1, rfl, I2, turn_enum a (s1.heap.objs.size + 1) s1.heap.objs.size, ⟨⟨.none, he⟩, hit, Nat.succ_ne_self _⟩, fresh2, q⟩
    · obtain ⟨its, rv, p', hz⟩ := I1.tuple hq
      refine call_enumerate_tuple p' fun h' he hit hsz hk => wpAny_pyIter_enum he ?_
      have I2 : Inv X pins σ H1 { s1 with heap := h' } := I1.kept (t' := s1.toks) hk
      exact ⟨s1.heap.objs.size + 1, [s1.heap.objs.size + 1, s1.heap.objs.size], _, _, H1, rfl, I2, turn_enumT a (s1.heap.objs.size + 1) s1.heap.objs.size, ⟨⟨.none, he⟩, hit, Nat.succ_ne_self _⟩, fresh2, q⟩
theorem it_enumT {T : List (Addr × Str)} {K : PySem.W.Frag} {W : Wd} {p : Addr} {vs : List V} {xs : List D} (nh : ¬ Hid W p) (h : W.H p = some (.tup vs)) (r : RepL W xs vs) : ItRep T W (IteT K p) (enD 0 xs) := by
  intro W' l ok i
  have h' : SqT K W'.H p vs := .inl (.inl (l.keepTup h nh))
  refine ⟨fun d e => ?_, fun hi => ⟨vs, h', by rw [r.length]; rw [enD_length] at hi; exact hi⟩⟩
  rw [enD_get] at e
  cases q : xs[i]? with
  | none => rw [q] at e; cases e
  | some d0 =>
    rw [q] at e
    cases e
    obtain ⟨v, e1, e2⟩ := (RepL.monoW l _ _ r).get q
    refine ⟨⟨vs, v, h', e1⟩, fun x H' ⟨Tp, y, q1, q2, q3, q4⟩ => ?_⟩
    have := q4 vs h'
    rw [e1] at this
    cases this
    subst q1 q3
    rw [Nat.zero_add]
    exact newPair ok q2 .int e2
def wEnA (wr : DWA) : DWI := fun ρ mu Φ Ξ => wr ρ mu (fun ds mu1 => match ds with | [.lst xs] => Φ (enD 0 xs) mu1 | [.tup xs] => Φ (enD 0 xs) mu1 | _ => False) Ξ
theorem di_enumA {X : Cx} {T : List (Addr × Str)} {E : XK} {e : Expr} {p pos : Pos} {n : Nat} {wr : DWA} {elts : List Expr} {kk : Nat} {tpos : Pos} (hg : Gl X "enumerate") (hm : X.mg "enumerate" = none) (ha : PA X [e] (tOfA T E n wr)) (hs : starEach [e] X.env = [(false, eval e X.env)] := by rfl) :
    PI X (.Tuple elts kk tpos) (.Call (.Name "enumerate" p) [e] [] pos) (tOfI T E (wEnA wr)) := (pi_enumA hg hm ha hs).imp fun σ H R h => by
  obtain ⟨W, ρ, Φ, Ξ, e1, ok, re, hw, tq, tx⟩ := h
  refine ⟨W, ρ, _, Ξ, e1, ok, re, hw, fun W1 ds vs l1 ok1 r1 hl h1 => ?_, tx⟩
  match ds, h1, r1 with
  | [.lst xs], h1, r1 =>
    obtain ⟨v, rfl, r2⟩ := r1.one_of
    obtain ⟨q, us, rfl, nh, g1, g2⟩ := r2.lst_of
    exact ⟨q, us, rfl, .inl ⟨SqL.of g1, tq W1 _ _ l1 ok1 (it_enum nh g1 g2) h1⟩⟩
  | [.tup xs], h1, r1 =>
    obtain ⟨v, rfl, r2⟩ := r1.one_of
    obtain ⟨q, us, rfl, nh, g1, g2⟩ := r2.tup_of
    exact ⟨q, us, rfl, .inr ⟨SqT.of g1, tq W1 _ _ l1 ok1 (it_enumT nh g1 g2) h1⟩⟩
/-! ### what a loop walks: a list or a tuple -/
section
variable {X : Cx} {T : List (Addr × Str)} {E : XK} {tg e : Expr}
def iAny (K : PySem.W.Frag) (te : TE) : TI := fun σ H R => te σ H fun x H1 => ∃ a, x = .ref a ∧ (((∃ xs, SqL K H1 a xs) ∧ R (Itl K a) H1) ∨ ((∃ xs, SqT K H1 a xs) ∧ R (Itt K a) H1))
theorem pi_any {te : TE} (h : PE X e te) : PI X tg e (iAny X.K te) := by
  refine ⟨fun pins s σ H R I hw => ?_⟩
  refine thn (h.run pins s σ H _ I hw) fun v s1 ⟨x, H1, I1, r1, q1⟩ => ?_
  obtain ⟨a, e, q1⟩ := q1
  subst e
  cases r1
  have fresh : ∀ b, b ∈ [s1.heap.objs.size] → FpOk X pins H1 b := fun b hb => by
    have e : b = s1.heap.objs.size := by simpa using hb
    subst e
    exact I1.fpOk (Nat.le_refl _) (I1.hok.fresh (Nat.le_refl _))
  rcases q1 with ⟨⟨xs, hq⟩, q⟩ | ⟨⟨xs, hq⟩, q⟩
  · obtain ⟨its, rv, p, hz⟩ := I1.list hq
    refine wpAny_pyIter_list p.isList ?_
    exact ⟨s1.heap.objs.size, [s1.heap.objs.size], _, _, H1, rfl, I1.kept (t' := s1.toks) fun b o e => Heap.get?_push_of_some _ e, turn_list a _, ⟨_, Heap.get?_push_size _ rfl, rfl, rfl⟩, fresh, q⟩
  · obtain ⟨its, rv, p, hz⟩ := I1.tuple hq
    refine wpAny_pyIter_tuple (show s1.heap.IsTuple a its.toArray from p) ?_
    exact ⟨s1.heap.objs.size, [s1.heap.objs.size], _, _, H1, rfl, I1.kept (t' := s1.toks) fun b o e => Heap.get?_push_of_some _ e, turn_tuple a _, ⟨_, Heap.get?_push_size _ rfl, rfl, rfl⟩, fresh, q⟩
def wItA (w : DW) : DWI := fun ρ mu Φ Ξ => w ρ mu (fun d mu1 => match d with | .lst xs => Φ xs mu1 | .tup xs => Φ xs mu1 | _ => False) Ξ
theorem di_any {wa : DW} (h : PE X e (tOf T E wa)) : PI X tg e (tOfI T E (wItA wa)) := (pi_any h).imp fun σ H R h => by
  obtain ⟨W, ρ, Φ, Ξ, e1, ok, re, hw, tq, tx⟩ := h
  refine ⟨W, ρ, _, Ξ, e1, ok, re, hw, fun W1 d v l1 ok1 r1 h1 => ?_, tx⟩
  match d, h1, r1 with
  | .lst xs, h1, r1 =>
    obtain ⟨p, vs, rfl, nh, g1, g2⟩ := r1.lst_of
    exact ⟨p, rfl, .inl ⟨⟨vs, SqL.of g1⟩, tq W1 _ xs l1 ok1 (it_list nh g1 g2) h1⟩⟩
  | .tup xs, h1, r1 =>
    obtain ⟨p, vs, rfl, nh, g1, g2⟩ := r1.tup_of
    exact ⟨p, rfl, .inr ⟨⟨vs, SqT.of g1⟩, tq W1 _ xs l1 ok1 (it_tup nh g1 g2) h1⟩⟩
end
/-! ### calls within a lambda's body: the context's data are told last -/
section
open LamX (lamEnv)
variable {X : Cx} {T : List (Addr × Str)} {E : XK} {A : Around} {outer : List Env} {s : Shared} {H : Hp} {scope : Scope} {g c' : Addr} {P : Program} {w : World} {K : PySem.W.Frag} {mg : Str → Option Value} {base : Heap} {k n : Nat} {x : Str} {ps : List Str} {S : DSp} {e : Expr} {es : List Expr} {wr : DWA} {p pos : Pos}
theorem de_callXL (C : Cal P w K mg base (L2N.CX P w) k x ps (toSp T S)) (hr : Room k (A.deeper (lamEnv X scope s.heap.objs.size g c'))) (hg : Gl (lamCxN X A outer s H E scope g c') x) (ha : PA (lamCxN X A outer s H E scope g c') (e :: es) (tOfA T E n wr))
    (e1 : X.prog = P := by rfl) (e2 : X.w = w := by rfl) (e3 : X.K = K := by rfl) (e4 : X.mg = mg := by rfl) (e5 : X.base = base := by rfl) (hdb : (x == ("__debug__" : Str)) = false := by decide)
    (he : starEach (e :: es) (lamCxN X A outer s H E scope g c').env = (false, eval e (lamCxN X A outer s H E scope g c').env) :: starEach es (lamCxN X A outer s H E scope g c').env := by rfl) (hpl : (backTo pos (starEach es (lamCxN X A outer s H E scope g c').env)).any (·.1) = false := by rfl) :
    PE (lamCxN X A outer s H E scope g c') (.Call (.Name x p) (e :: es) [] pos) (tOf T E (wCall S wr)) := by
  subst e1 e2 e3 e4 e5
  exact de_callX (X := lamCxN X A outer s H E scope g c') C hr hg (hxL (X := X)) ha hdb he hpl
theorem de_callPL (C : Cal P w K mg base CX0 k x ps (toSp T S)) (hr : Room k (A.deeper (lamEnv X scope s.heap.objs.size g c'))) (hg : Gl (lamCxN X A outer s H E scope g c') x) (ha : PA (lamCxN X A outer s H E scope g c') (e :: es) (tOfA T E n wr))
    (e1 : X.prog = P := by rfl) (e2 : X.w = w := by rfl) (e3 : X.K = K := by rfl) (e4 : X.mg = mg := by rfl) (e5 : X.base = base := by rfl) (hdb : (x == ("__debug__" : Str)) = false := by decide)
    (he : starEach (e :: es) (lamCxN X A outer s H E scope g c').env = (false, eval e (lamCxN X A outer s H E scope g c').env) :: starEach es (lamCxN X A outer s H E scope g c').env := by rfl) (hpl : (backTo pos (starEach es (lamCxN X A outer s H E scope g c').env)).any (·.1) = false := by rfl) :
    PE (lamCxN X A outer s H E scope g c') (.Call (.Name x p) (e :: es) [] pos) (tOf T E (wCall0 S wr)) := by
  subst e1 e2 e3 e4 e5
  exact de_call (X := lamCxN X A outer s H E scope g c') C hr hg ha hdb he hpl
theorem de_call0PL (C : Cal P w K mg base CX0 k x ps (toSp T S)) (hr : Room k (A.deeper (lamEnv X scope s.heap.objs.size g c'))) (hg : Gl (lamCxN X A outer s H E scope g c') x)
    (e1 : X.prog = P := by rfl) (e2 : X.w = w := by rfl) (e3 : X.K = K := by rfl) (e4 : X.mg = mg := by rfl) (e5 : X.base = base := by rfl) (hdb : (x == ("__debug__" : Str)) = false := by decide) :
    PE (lamCxN X A outer s H E scope g c') (.Call (.Name x p) [] [] pos) (tOf T E (wCall0 S wNil)) := by
  subst e1 e2 e3 e4 e5
  exact de_call0 (X := lamCxN X A outer s H E scope g c') C hr hg hdb
theorem de_callVL {i : Nat} {cs : List (Str × DSp)} (C : ∀ nm S, (nm, S) ∈ cs → ∃ ps, Cal P w K mg base (L2N.CX P w) k nm ps (toSp T S)) (hr : Room k (A.deeper (lamEnv X scope s.heap.objs.size g c'))) (ha : PA (lamCxN X A outer s H E scope g c') (e :: es) (tOfA T E n wr))
    (hN : X.N[i]? = some x := by rfl) (hv : Vis scope x := by first | exact .inl rfl | exact .inr (.inl rfl) | exact .inr (.inr rfl))
    (e1 : X.prog = P := by rfl) (e2 : X.w = w := by rfl) (e3 : X.K = K := by rfl) (e4 : X.mg = mg := by rfl) (e5 : X.base = base := by rfl) (hdb : (x == ("__debug__" : Str)) = false := by decide) (hcd : (x == ("__classdict__" : Str)) = false := by decide)
    (he : starEach (e :: es) (lamCxN X A outer s H E scope g c').env = (false, eval e (lamCxN X A outer s H E scope g c').env) :: starEach es (lamCxN X A outer s H E scope g c').env := by rfl) (hpl : (backTo pos (starEach es (lamCxN X A outer s H E scope g c').env)).any (·.1) = false := by rfl) :
    PE (lamCxN X A outer s H E scope g c') (.Call (.Name x p) (e :: es) [] pos) (tOf T E (wCallV mg cs i wr)) := by
  subst e1 e2 e3 e4 e5
  exact de_callV (X := lamCxN X A outer s H E scope g c') C hr hN hv (hxL (X := X)) ha hdb hcd he hpl
end
end DL
set_option maxHeartbeats 4000000
/-! DE2: what the head tells, turned to the facts that the defs lean on. -/
namespace DL
open PySem PySem.Spec PyProof.Rows L2
abbrev BindsH (x : Str) (st : Stmt) (ps : List Str) : Prop := ∀ (kV doc pm : Value) (an : Option Addr) (cdv ct : Value) (us : List Value), us.length = ps.length → bindArgs (PySem.W.fnOf x x (defArgs st) (defBody st) (defScope st) .none kV doc pm an cdv ct) ⟨us, []⟩ = pure (ps.zip us)
section
variable {K : PySem.W.Frag} {mg : Str → Option Value} {fa : List He.Fa} {fn : List He.DefD}
/-- what of a head is used: K's facts and the module's names -/
structure HeadS (K : PySem.W.Frag) (mg : Str → Option Value) (fa : List He.Fa) (fn : List He.DefD) (ex : PySem.W.Frag → Bool) : Prop where
  ns : ∃ h : Heap, K.In h ∧ h.Ns mainGlobals mg
  says : He.SaysD fa fn K
  more : ex K = true
variable {ex : PySem.W.Frag → Bool}
theorem HeadS.glo (H : HeadS K mg fa fn ex) (i : Nat) {x : Str} (h : fa[i]? = some (.glo x) := by rfl) : mg x = some (.ref (He.ga K x)) := by
  obtain ⟨hp, X, G⟩ := H.ns
  exact He.glo_ok X G (H.says.fact i h)
theorem HeadS.free (H : HeadS K mg fa fn ex) (i : Nat) {x : Str} (h : fa[i]? = some (.free x) := by rfl) : mg x = none := by
  obtain ⟨hp, X, G⟩ := H.ns
  exact He.free_ok X G (H.says.fact i h)
theorem HeadS.int (H : HeadS K mg fa fn ex) (i : Nat) {x : Str} {z : Int} (h : fa[i]? = some (.int x z) := by rfl) : ∃ t, mg x = some (.int z t) := by
  obtain ⟨hp, X, G⟩ := H.ns
  exact He.int_ok X G (H.says.fact i h)
theorem HeadS.cls (H : HeadS K mg fa fn ex) (i : Nat) {x : Str} (h : fa[i]? = some (.glo x) := by rfl) : ∃ C : Addr, mg x = some (.ref C) := ⟨_, H.glo i h⟩
theorem HeadS.exF (H : HeadS K mg fa fn ex) (i j : Nat) {x : Str} (h : fa[i]? = some (.glo x) := by rfl) (h2 : fa[j]? = some (.exc x) := by rfl) : ExF K mg x := by
  obtain ⟨c1, c2, c3, c4⟩ := He.exc_ok (H.says.fact j h2)
  exact ⟨_, H.glo i h, c1, c2, c3, c4⟩
theorem fun_of {x : Str} {st : Stmt} {f : Addr} {fd : FuncData} (F : L2.FunD K x x (defArgs st) (defBody st) (defScope st) [] [] f fd) : L2.Fun K x x st f fd := by
  obtain ⟨oc, od, dV, kV, doc, pm, an, cdv, ct, osl, e, lk, hcd, hD, hK⟩ := F.ex
  rcases hD with ⟨_, rfl⟩ | ⟨z, _⟩
  · exact ⟨⟨oc, od, kV, doc, pm, an, cdv, ct, osl, e, lk, hcd⟩, F.kp⟩
  · exact absurd rfl z
abbrev dD (x : Str) (st : Stmt) : He.DefD := ⟨(x, none), x, x, defArgs st, defBody st, defScope st, [], []⟩
theorem HeadS.fn_ (H : HeadS K mg fa fn ex) (i : Nat) {x : Str} {st : Stmt} (h : fn[i]? = some (dD x st) := by rfl) : ∃ fd, L2.Fun K x x st (He.ga K x) fd := by
  obtain ⟨fd, F⟩ := H.says.def_ i h
  exact ⟨fd, fun_of F⟩
theorem HeadS.df (H : HeadS K mg fa fn ex) (i j : Nat) {x : Str} {st : Stmt} {ps : List Str} (hb : BindsH x st ps) (h : fn[i]? = some (dD x st) := by rfl) (h2 : fa[j]? = some (.glo x) := by rfl) : Df K mg x st ps := by
  obtain ⟨fd, F⟩ := H.fn_ i h
  exact ⟨_, fd, F, H.glo j h2, F.binds hb⟩
/-- .. of a def that makes lambdas -/
theorem HeadS.dfl (H : HeadS K mg fa fn ex) (i j : Nat) {x : Str} {st : Stmt} {ps : List Str} (hb : BindsH x st ps) (h : fn[i]? = some (dD x st) := by rfl) (h2 : fa[j]? = some (.glo x) := by rfl) : DfL K mg x st ps (He.codeOf K (x, none)) := by
  obtain ⟨fd, F⟩ := H.fn_ i h
  have b := F.binds hb
  obtain ⟨oc, od, kV, doc, pm, an, cdv, ct, osl, rfl, lk, hcd⟩ := F.ex
  obtain ⟨c, e⟩ := He.codeIn_ref hcd
  subst e
  have e2 : He.codeOf K (x, none) = c := He.codeOf_eq lk rfl
  rw [e2]
  exact ⟨_, oc, od, kV, doc, pm, an, ct, osl, lk, hcd, F.kp, H.glo j h2, b⟩
end
/-! ### classes of caught exceptions -/
def eqB (a b : Option Bool) : Bool := match a, b with
  | some true, some true => true
  | some false, some false => true
  | _, _ => false
theorem eqB_ok {a : Option Bool} {b : Bool} (h : eqB a (some b) = true) : a = some b := by
  cases a with
  | none => cases b <;> cases h
  | some c => cases c <;> cases b <;> first | rfl | cases h
def excCB (K : PySem.W.Frag) (D : Addr) : Bool :=
  He.eqO (PySem.W.findIn K (.ref D) "__getattribute__") (some (some (.builtin "BaseException.__getattribute__"))) && (He.eqO (PySem.W.findIn K (.ref D) "__getattr__") (some none) && (eqB (PySem.W.subIn K (.ref D) (.type "BaseException")) (some true) && (PySem.W.hasDictIn K D &&
  (He.eqO (PySem.W.findIn K (.ref D) "__class__") (some (some (.builtin "object.__class__"))) && (He.eqO (PySem.W.specialIn K (.builtin "object.__class__") "__get__") (some (some (.builtin "getset_descriptor.__get__"))) && (eqB (PySem.W.takesIn K (.builtin "object.__class__")) (some true) && eqB (PySem.W.mroIn K D (.type "object")) (some true)))))))
theorem excCB_ok {K : PySem.W.Frag} {D : Addr} (h : excCB K D = true) : ExcC K D := by
  obtain ⟨h1, h⟩ := He.ba h
  obtain ⟨h2, h⟩ := He.ba h
  obtain ⟨h3, h⟩ := He.ba h
  obtain ⟨h4, h⟩ := He.ba h
  obtain ⟨h5, h⟩ := He.ba h
  obtain ⟨h6, h⟩ := He.ba h
  obtain ⟨h7, h8⟩ := He.ba h
  exact ⟨He.eqO_ok h1, He.eqO_ok h2, eqB_ok h3, h4, He.eqO_ok h5, He.eqO_ok h6, eqB_ok h7, eqB_ok h8⟩
def isB (K : PySem.W.Frag) (x : Str) : List Str → List Bool → Bool
  | n :: ns, b :: bs => eqB (PySem.W.kitOne K (.ref (He.ga K x)) (.ref (He.ga K n))) (some b) && isB K x ns bs
  | [], [b] => eqB (PySem.W.kitOne K (.ref (He.ga K x)) (.type "ValueError")) (some b)
  | _, _ => false
theorem isB_ok {K : PySem.W.Frag} {x : Str} : ∀ {ns : List Str} {bs : List Bool}, isB K x ns bs = true → bs.length = ns.length + 1 ∧ (∀ (i : Nat) (n : Str), ns[i]? = some n → PySem.W.kitOne K (.ref (He.ga K x)) (.ref (He.ga K n)) = some (bs.getD i false)) ∧ PySem.W.kitOne K (.ref (He.ga K x)) (.type "ValueError") = some (bs.getD ns.length false)
  | [], [b], h => ⟨rfl, fun i n e => by simp at e, eqB_ok h⟩
  | n :: ns, b :: bs, h => by
    obtain ⟨h1, h2⟩ := He.ba h
    obtain ⟨a1, a2, a3⟩ := isB_ok (ns := ns) (bs := bs) h2
    refine ⟨by simp [a1], fun i m e => ?_, by simpa using a3⟩
    cases i with
    | zero =>
      simp at e
      subst e
      simpa using eqB_ok h1
    | succ i => simpa using a2 i m (by simpa using e)
  | [], [], h => by cases h
  | [], _ :: _ :: _, h => by cases h
  | _ :: _, [], h => by cases h
/-- the flags of the naming def, class by class -/
def kinBits (x : Str) : List Bool := (kinNames.map fun n => n == x) ++ [true]
/-- all that is asked of a raised class: without an own __init__ -/
def raisB (K : PySem.W.Frag) (x : Str) : Bool := excCB K (He.ga K x) && (eqB (PySem.W.exmOne K (.ref (He.ga K x)) (.ref (He.ga K "TooMany"))) (some false) && (eqB (PySem.W.exmOne K (.ref (He.ga K x)) (.ref (He.ga K "ClimbError"))) (some true) && isB K x kinNames (kinBits x)))
/-- a raised class as the law's try takes it -/
structure Rz (K : PySem.W.Frag) (mg : Str → Option Value) (x txt : Str) : Prop where
  cl : ∃ D0 : Addr, cl mg x = .ref D0 ∧ TryC K (DL.cl mg "TooMany") (DL.cl mg "ClimbError") D0 ∧ KinR K mg D0 txt
theorem raisB_ok {K : PySem.W.Frag} {mg : Str → Option Value} {x txt : Str} (h : raisB K x = true) (hx : mg x = some (.ref (He.ga K x))) (h1 : mg "TooMany" = some (.ref (He.ga K "TooMany"))) (h2 : mg "ClimbError" = some (.ref (He.ga K "ClimbError"))) (hn : ∀ n ∈ kinNames, mg n = some (.ref (He.ga K n))) (ht : txt = kinText (kinBits x)) : Rz K mg x txt := by
  obtain ⟨a1, h⟩ := He.ba h
  obtain ⟨a2, h⟩ := He.ba h
  obtain ⟨a3, a4⟩ := He.ba h
  obtain ⟨b1, b2, b3⟩ := isB_ok a4
  refine ⟨He.ga K x, by unfold DL.cl; rw [hx]; rfl, ⟨excCB_ok a1, ?_, ?_⟩, ⟨kinBits x, b1, fun i n e => ⟨.ref (He.ga K n), ?_, b2 i n e⟩, b3, ht⟩⟩
  · rw [show DL.cl mg "TooMany" = .ref (He.ga K "TooMany") by unfold DL.cl; rw [h1]; rfl]
    exact eqB_ok a2
  · rw [show DL.cl mg "ClimbError" = .ref (He.ga K "ClimbError") by unfold DL.cl; rw [h2]; rfl]
    exact eqB_ok a3
  · have e2 := hn n (List.mem_of_getElem? e)
    unfold clD
    rw [e2]
    rfl
theorem kinP_of {P : Program} {w : World} {K : PySem.W.Frag} {mg : Str → Option Value} {base : Heap} {T : List (Addr × Str)} {N : List Str} {st : Stmt} {b : Addr → Addr → DWS} (F : Df K mg "_law_kin" st ["e"]) (sc : FnScope N ["e"] (defScope st))
    (hb : ∀ {D0 : Addr} {p : Addr × Obj} {f : Addr} {cdv : Value} {A : Around} {outer : List Env} {s : Shared} {H : Hp}, ExcC K D0 → Zc (.ref D0) none p.2 → (∃ vs, p.2.data = .fields vs) → L2H.Hot1 A p → PSs (L2H.cxH CX0 P w K mg base N "_law_kin" (defScope st) f cdv A outer s H E0 p).nox (defBody st) (tOfS T E0 (b D0 p.1)))
    (rd : ∀ D0 a txt mu Φ, KinR K mg D0 txt → Φ (.str txt) mu → b D0 a (startD N.length [.ref a]) mu ⟨fun _ mu' => fin mu Φ .non mu', fin mu Φ, fun _ _ => False, fun _ _ => False⟩ X0) : KinP P w K mg base T 1 "_law_kin" "e" (KinR K mg) := by
  obtain ⟨f, fd, F1, hm, hbi⟩ := F.ex
  refine ⟨f, fd, hm, F1.kp, hbi, fun A outer s H args p Q W Φ D0 txt hr hot hpin e0 hbt hC hz hf hk e1 ok hΦ tq => ?_⟩
  have hpl : 1 ≤ N.length := by
    have := congrArg List.length sc.pre
    rw [List.length_take] at this
    simp at this
    omega
  refine runH1 (N := N) (vs := [.ref p.1]) (us := [.ref p.1]) F1 sc rfl hr hot hpin e0 hbt (.cons rfl .nil) (fun cdv => hb hC hz hf hot) ?_
  refine ⟨W, startD N.length [.ref p.1], _, X0, e1, ok, repE_start (.cons .ref .nil) (by simpa using hpl), rd D0 p.1 txt W.mu Φ hk hΦ, ?_, TrX.none⟩
  exact ⟨fun W' σ' ρ' l ok' re h => fin_tr ok tq W' .non .non l ok' .non h, fin_tr ok tq, fun _ _ _ _ _ _ z => z.elim, fun _ _ _ _ _ _ z => z.elim⟩
end DL
set_option maxHeartbeats 4000000
/-! DE3: a comprehension over a list that may change later (and is not changed within). -/
namespace DL
open PySem PySem.Spec PyProof.Rows L2
def wLcGoK (k : Nat) (all : List D) (dg : DG) (tt : DWT) (w : DW) (ρ : EnvD) (vs : List Nat) : List D → List D → MS → (List D → MS → Prop) → Prop
  | acc, [], mu, Φ => mu[k]? = some (.lst all) ∧ Φ acc mu
  | acc, x :: xs, mu, Φ => mu[k]? = some (.lst all) ∧ dg x (wipeD ρ vs) fun ρ1 => tt ρ1 mu (fun b mu1 => if b = true then w ρ1 mu1 (fun y mu2 => wLcGoK k all dg tt w ρ vs (acc ++ [y]) xs mu2 Φ) X0 else wLcGoK k all dg tt w ρ vs acc xs mu1 Φ) X0
def wLcK (wa : DW) (dg : DG) (tt : DWT) (w : DW) (vs : List Nat) : DW := fun ρ mu Φ Ξ => wa ρ mu (fun d mu1 => match d with | .loc k => (match mu1[k]? with | some (.lst xs) => xs.length ≤ 100000 ∧ wLcGoK k xs dg tt w ρ vs [] xs mu1 fun ds mu2 => Φ (.lst ds) mu2 | _ => False) | _ => False) Ξ
section
variable {X : Cx} {T : List (Addr × Str)} {E : XK}
theorem itK {W1 W2 : Wd} {K : PySem.W.Frag} {k0 i : Nat} {pa : Addr} {all : List D} {d : D} (l : LeW W1 W2) (ok : WOk T W2) (ha : W1.as[k0]? = some pa) (hk : W2.mu[k0]? = some (.lst all)) (e : all[i]? = some d) :
    (Itl K pa).go i W2.H ∧ ∀ x H', (Itl K pa).yld i W2.H x H' → ∃ W'' : Wd, W''.H = H' ∧ W''.mu = W2.mu ∧ Le W2 W'' ∧ WOk T W'' ∧ Rep W'' d x := by
  obtain ⟨vs, h1, h2⟩ := ok.ob k0 pa _ (l.as_get ha) hk
  have h' : SqL K W2.H pa vs := SqL.of h1
  obtain ⟨v, e1, e2⟩ := h2.get e
  refine ⟨⟨vs, v, h', e1⟩, fun x H' ⟨q1, q2⟩ => ⟨W2, q1.symm, rfl, .refl W2, ok, ?_⟩⟩
  have := q2 vs h'
  rw [e1] at this
  cases this
  exact e2
theorem stopK {W1 W2 : Wd} {K : PySem.W.Frag} {k0 i : Nat} {pa : Addr} {all : List D} (l : LeW W1 W2) (ok : WOk T W2) (ha : W1.as[k0]? = some pa) (hk : W2.mu[k0]? = some (.lst all)) (e : all.length ≤ i) : (Itl K pa).stop i W2.H := by
  obtain ⟨vs, h1, h2⟩ := ok.ob k0 pa _ (l.as_get ha) hk
  exact ⟨vs, SqL.of h1, by rw [h2.length]; exact e⟩
/-- within a comprehension the new list is nobody's -/
theorem sim_lcAnyK {k0 : Nat} {all : List D} {pa : Addr} {K : PySem.W.Frag} {g : TG} {dg : DG} {tt : DWT} {w : DW} {vs : List Nat} {σ : L2.St} {Q : VK} {W1 : Wd} {items : List D} {ρ : EnvD} {Ψ : List D → MS → Prop} (hg : LcG T g dg vs) (ok1 : WOk T W1) (re1 : RepE W1 σ ρ) (hk0 : W1.as[k0]? = some pa) (hit : items = all) (hlen : items.length ≤ 100000)
    (h1 : wLcGoK k0 all dg tt w ρ vs [] items W1.mu Ψ) {Dl : Addr} (hD : W1.H Dl = none)
    (fin : ∀ (W2 : Wd) acc va, LeW W1 W2 → W2.ex = Dl :: W1.ex → (∀ a, a ∈ W1.ex → (∀ ps, W1.H a ≠ some (.tbl ps)) → W2.H a = W1.H a) → WOk T W2 → W2.H Dl = some (.lst va) → RepL W2 acc va → Ψ acc W2.mu → Q (.ref Dl) W2.H) :
    ∃ W : Nat → Nat → Hp → Prop, (∃ m, W 0 m (upd W1.H Dl (.lst []))) ∧ ∀ i m H, W i m H →
      ((Itl K pa).stop i H ∧ Q (.ref Dl) H) ∨ ((Itl K pa).go i H ∧ ∃ Nx : Hp → Prop, (∀ H', Nx H' → ∃ m', m' < m ∧ W (i + 1) m' H') ∧ ∀ x H', (Itl K pa).yld i H x H' → g x (wipe σ vs) H' fun σ2 H2 => wipe σ2 vs = wipe σ vs ∧ tOfT T E0 tt σ2 H2 fun b H3 =>
        if b = true then tOf T E0 w σ2 H3 fun y H4 => ∃ acc, H4 Dl = some (.lst acc) ∧ acc.length < sizeLine ∧ Nx (upd H4 Dl (.lst (acc ++ [y]))) else Nx H3) := by
  have nex : Dl ∉ W1.as ++ W1.ex := fun q => by
    obtain ⟨o, e, _⟩ := ok1.tr Dl q
    rw [hD] at e
    cases e
  let P : Nat → Hp → Prop := fun i H' => ∃ (W2 : Wd) (acc : List D) (va : List V), W2.H = H' ∧ LeW W1 W2 ∧ W2.ex = Dl :: W1.ex ∧ (∀ a, a ∈ W1.ex → (∀ ps, W1.H a ≠ some (.tbl ps)) → W2.H a = W1.H a) ∧ WOk T W2 ∧ W2.H Dl = some (.lst va) ∧ RepL W2 acc va ∧ acc.length ≤ i ∧ wLcGoK k0 all dg tt w ρ vs acc (items.drop i) W2.mu Ψ
  refine ⟨fun i m H' => m = items.length - i ∧ i ≤ items.length ∧ P i H', ⟨items.length, by simp, Nat.zero_le _, ?_⟩, ?_⟩
  · refine ⟨{ as := W1.as, mu := W1.mu, ex := Dl :: W1.ex, H := upd W1.H Dl (.lst []) }, [], [], rfl, ⟨⟨[], by simp⟩, fun a o h n t => ?_, fun a o h n t q => ?_⟩, rfl, fun a ha _ => ?_, ?_, upd_same, .nil, Nat.le_refl _, by simpa using h1⟩
    · show upd W1.H Dl _ a = _
      rw [upd_ne (ne_of_none h hD)]
      exact h
    · rcases q with q | q
      · rcases List.mem_cons.mp q with q | q
        · rw [q, hD] at h
          cases h
        · exact n (.inl q)
      · exact n (.inr q)
    · show upd W1.H Dl _ a = _
      rw [upd_ne (fun e => nex (by rw [← e]; exact List.mem_append_right _ ha))]
    · have lw : LeW W1 { as := W1.as, mu := W1.mu, ex := Dl :: W1.ex, H := upd W1.H Dl (.lst []) } := by
        refine ⟨⟨[], by simp⟩, fun a o h n t => ?_, fun a o h n t q => ?_⟩
        · show upd W1.H Dl _ a = _
          rw [upd_ne (ne_of_none h hD)]
          exact h
        · rcases q with q | q
          · rcases List.mem_cons.mp q with q | q
            · rw [q, hD] at h
              cases h
            · exact n (.inl q)
          · exact n (.inr q)
      have st : ∀ a u, W1.H a = some u → upd W1.H Dl (.lst []) a = some u := fun a u e => by rw [upd_ne (ne_of_none e hD)]; exact e
      refine ⟨ok1.len, ok1.nd, fun a ha => ?_, fun a ha q => ?_, fun k a m h1 h2 => (ok1.ob k a m h1 h2).monoW lw (st a), ok1.tabs.ext st⟩
      · have ha : a ∈ W1.as ++ (Dl :: W1.ex) := ha
        by_cases e : a = Dl
        · exact ⟨_, by rw [e]; exact upd_same, fun ps z => by cases z⟩
        · have : a ∈ W1.as ++ W1.ex := by
            simp only [List.mem_append, List.mem_cons] at ha ⊢
            rcases ha with z | z | z
            · exact .inl z
            · exact absurd z e
            · exact .inr z
          obtain ⟨u, q, en⟩ := ok1.tr a this
          exact ⟨u, st a u q, en⟩
      · have ha : a ∈ Dl :: W1.ex := ha
        rcases List.mem_cons.mp ha with z | z
        · rw [z] at q
          exact nex (List.mem_append_left _ q)
        · exact ok1.dj a z q
  rintro i m H ⟨rfl, hi, W2, acc, va, rfl, l2, ex2, exk2, ok2, hD2, ra, hacc, h2⟩
  by_cases hlt : i < items.length
  · have ed : items.drop i = items[i] :: items.drop (i + 1) := List.drop_eq_getElem_cons hlt
    rw [ed] at h2
    have hk2 : W2.mu[k0]? = some (.lst all) := h2.1
    replace h2 := h2.2
    have hal : all[i]? = some items[i] := by rw [← hit]; exact List.getElem?_eq_getElem hlt
    obtain ⟨go, yl⟩ := itK l2 ok2 hk0 hk2 hal (K := K)
    refine .inr ⟨go, P (i + 1), fun H' h' => ⟨items.length - (i + 1), by omega, rfl, hlt, h'⟩, fun x H' y => ?_⟩
    obtain ⟨W3, rfl, em, l3, ok3, r3⟩ := yl x H' y
    have inex : Dl ∈ W2.ex := by rw [ex2]; exact List.mem_cons_self
    have nt : ∀ ps, (some (HO.lst va) : Option HO) ≠ some (.tbl ps) := fun ps z => by cases z
    have h2 : dg items[i] (wipeD ρ vs) fun ρ1 => tt ρ1 W2.mu (fun k mu1 => if k = true then w ρ1 mu1 (fun y mu2 => wLcGoK k0 all dg tt w ρ vs (acc ++ [y]) (items.drop (i + 1)) mu2 Ψ) X0 else wLcGoK k0 all dg tt w ρ vs acc (items.drop (i + 1)) mu1 Ψ) X0 := h2
    rw [← em] at h2
    have l13 : LeW W1 W3 := l2.trans l3.w
    refine hg.run W3 items[i] x σ ρ _ _ ok3 r3 ((re1.monoW l13).wipe vs) h2 fun σ4 ρ4 ew re4 h4 => ⟨ew, ?_⟩
    refine ⟨W3, ρ4, _, X0, rfl, ok3, re4, h4, fun W4 k l4 ok4 h5 => ?_, TrX.none⟩
    have l14 : LeW W1 W4 := l13.trans l4.w
    have l24 : Le W2 W4 := l3.trans l4
    have ex4 : W4.ex = Dl :: W1.ex := by rw [l24.ex, ex2]
    have exk4 : ∀ a, a ∈ W1.ex → (∀ ps, W1.H a ≠ some (.tbl ps)) → W4.H a = W1.H a := fun a ha ht => by rw [l24.exk a (by rw [ex2]; exact List.mem_cons_of_mem _ ha) (by rw [exk2 a ha ht]; exact ht), exk2 a ha ht]
    cases k with
    | false =>
      rw [if_neg Bool.false_ne_true] at h5
      show P (i + 1) W4.H
      exact ⟨W4, acc, va, rfl, l14, ex4, exk4, ok4, by rw [l24.exk _ inex (by rw [hD2]; exact nt)]; exact hD2, RepL.mono l24 _ _ ra, by omega, h5⟩
    | true =>
      rw [if_pos rfl] at h5
      show tOf T E0 w σ4 W4.H _
      refine ⟨W4, ρ4, _, X0, rfl, ok4, re4.mono l4, h5, fun W5 d y l5 ok5 r5 h6 => ?_, TrX.none⟩
      have l25 : Le W2 W5 := l24.trans l5
      have ex5 : W5.ex = Dl :: W1.ex := by rw [l25.ex, ex2]
      have hD5 : W5.H Dl = some (.lst va) := by rw [l25.exk _ inex (by rw [hD2]; exact nt)]; exact hD2
      have nas : Dl ∉ W5.as := ok5.dj Dl (by rw [ex5]; exact List.mem_cons_self)
      have lw : LeW W5 { W5 with H := upd W5.H Dl (.lst (va ++ [y])) } := ⟨⟨[], by simp⟩, fun a o h n t => by
        show upd W5.H Dl _ a = _
        rw [upd_ne (fun e => n (.inl (by rw [e, ex5]; exact List.mem_cons_self)))]
        exact h, fun a o h n t q => n q⟩
      have ra5 := RepL.mono l25 _ _ ra
      refine ⟨va, hD5, by rw [ra.length]; exact Nat.lt_of_le_of_lt (show acc.length ≤ 100000 by omega) (by decide), { W5 with H := upd W5.H Dl (.lst (va ++ [y])) }, acc ++ [d], va ++ [y], rfl, (l14.trans l5.w).trans lw, ex5, fun a ha ht => ?_, ?_, upd_same, RepL.monoW lw _ _ (ra5.append (.cons r5 .nil)), by rw [List.length_append, List.length_singleton]; omega, h6⟩
      · show upd W5.H Dl _ a = _
        rw [upd_ne (fun e => nex (by rw [← e]; exact List.mem_append_right _ ha)), l25.exk a (by rw [ex2]; exact List.mem_cons_of_mem _ ha) (by rw [exk2 a ha ht]; exact ht), exk2 a ha ht]
      · refine ⟨ok5.len, ok5.nd, fun a ha => ?_, ok5.dj, fun k a m g1 g2 => (ok5.ob k a m g1 g2).monoW lw fun u hu => ?_, fun q hq => ?_⟩
        · by_cases e : a = Dl
          · exact ⟨_, by rw [e]; exact upd_same, fun ps z => by cases z⟩
          · obtain ⟨u, z, en⟩ := ok5.tr a ha
            exact ⟨u, by show upd W5.H Dl _ a = _; rw [upd_ne e]; exact z, en⟩
        · show upd W5.H Dl _ a = _
          rw [upd_ne (fun e => nas (by rw [← e]; exact List.mem_of_getElem? g1))]
          exact hu
        · obtain ⟨ps, z1, z2, z3⟩ := ok5.tabs q hq
          refine ⟨ps, by show upd W5.H Dl _ q.1 = _; rw [upd_ne (fun e => by rw [e, hD5] at z1; cases z1)]; exact z1, z2, fun pos cv hc => ?_⟩
          obtain ⟨c, e1, e2⟩ := z3 pos cv hc
          refine ⟨c, e1, ?_⟩
          show upd W5.H Dl _ c = _
          rw [upd_ne (fun e => by rw [e, hD5] at e2; unfold LamX.CodeO at e2; cases e2)]
          exact e2
  · have e : i = items.length := by omega
    subst e
    rw [List.drop_length] at h2
    exact .inl ⟨stopK l2 ok2 hk0 h2.1 (by rw [← hit]; exact Nat.le_refl _), fin W2 acc va l2 ex2 exk2 ok2 hD2 ra h2.2⟩
theorem sim_lcK {K : PySem.W.Frag} {g : TG} {dg : DG} {tt : DWT} {w wa : DW} {vs : List Nat} (hg : LcG T g dg vs) {σ : L2.St} {H : Hp} {Q : VK} (h : tOf T E (wLcK wa dg tt w vs) σ H Q) : tLc (iList K (tOf T E wa)) g (tOfT T E0 tt) (tOf T E0 w) vs σ H Q := by
  obtain ⟨W, ρ, Φ, Ξ, e1, ok, re, hw, tq, tx⟩ := h
  refine ⟨W, ρ, _, Ξ, e1, ok, re, hw, fun W1 d v l1 ok1 r1 h1 => ?_, tx⟩
  cases d with
  | loc k =>
    obtain ⟨p, g0, rfl⟩ := r1.loc_of
    dsimp only at h1
    cases q0 : W1.mu[k]? with
    | none => rw [q0] at h1; exact h1.elim
    | some m0 =>
      rw [q0] at h1
      cases m0 with
      | lst xs =>
        obtain ⟨hl, h1⟩ := h1
        obtain ⟨us, g1, g2⟩ := ok1.ob k p _ g0 q0
        refine ⟨p, rfl, ⟨us, SqL.of g1⟩, fun Dl hD => sim_lcAnyK hg ok1 (re.mono l1) g0 rfl hl h1 hD fun W2 acc va l2 ex2 exk2 ok2 hD2 ra h2 => ?_⟩
        obtain ⟨a1, a2, a3, a4, a5⟩ := unhide hD l2 ex2 exk2 ok1 ok2
        exact tq { W2 with ex := W1.ex } _ _ (l1.trans a1) a2 (Rep.lst a4 hD2 (RepL.monoW a3 _ _ ra)) h2
      | _ => exact h1.elim
  | _ => exact h1.elim
theorem de_lcK {K : PySem.W.Frag} {elt tg iter : Expr} {ifs : List Expr} {scope : Scope} {own : List (Str × Nat)} {pos : Pos} {wa : DW} {g : TG} {dg : DG} {tt : DWT} {w : DW} (h : PE X (.ListComp elt [⟨tg, iter, ifs, 0⟩] scope pos) (tLc (iList K (tOf T E wa)) g (tOfT T E0 tt) (tOf T E0 w) (own.map (·.2)))) (hg : LcG T g dg (own.map (·.2))) :
    PE X (.ListComp elt [⟨tg, iter, ifs, 0⟩] scope pos) (tOf T E (wLcK wa dg tt w (own.map (·.2)))) := h.imp fun _ _ _ h => sim_lcK hg h
end
end DL
set_option maxHeartbeats 4000000
/-! DE4: the end: the law's own def with its function object; the head's facts put together. -/
namespace DL
open PySem PySem.Spec PyProof.Rows L2
/-- the written part holds no list -/
def noL (K : PySem.W.Frag) : Bool := K.all fun q => match q.2.cls, q.2.data with
  | .type c, .seq _ _ => !(decide (c = "list"))
  | _, _ => true
theorem noL_ok {K : PySem.W.Frag} (h : noL K = true) {a : Addr} {o : Obj} (e : K.lookup a = some o) (h1 : o.cls = .type "list") {its : Array Value} {n : Nat} (h2 : o.data = .seq its n) : False := by
  have z := List.all_eq_true.mp h (a, o) (He.lookup_mem e)
  dsimp only at z
  rw [h1, h2] at z
  simp at z
theorem rd_of_sql {K : PySem.W.Frag} (h : noL K = true) {H : Hp} {a : Addr} {xs : List V} (s : SqL K H a xs) : Rd H a (.lst xs) := by
  rcases s with s | ⟨o, its, n, e, h1, _, h2, _⟩
  · exact s
  · exact (noL_ok h e h1 h2).elim
section
variable {P : Program} {w : World} {K : PySem.W.Frag} {mg : Str → Option Value} {base : Heap} {T : List (Addr × Str)}
/-- a promise that nobody can ask for -/
theorem ok0_of {x : Str} {st : Stmt} {ps : List Str} {k : Nat} {S : DSp} (F : Df K mg x st ps) (no : ∀ ds mu Φ Ξ, ¬ S ds mu Φ Ξ) : Cal P w K mg base CX0 k x ps (toSp T S) := by
  obtain ⟨f, fd, F, hm, hb⟩ := F.ex
  exact ⟨f, fd, ⟨fun vs H Q E ⟨W, ds, Φ, Ξ, _, _, _, h, _⟩ => (no _ _ _ _ h).elim, fun A outer s H args us vs Q E _ _ _ _ ⟨W, ds, Φ, Ξ, _, _, _, h, _⟩ => (no _ _ _ _ h).elim⟩, hm, F.kp, hb⟩
/-- the law's def, its function object named -/
structure DfLx (K : PySem.W.Frag) (mg : Str → Option Value) (x : Str) (st : Stmt) (ps : List Str) (c : Addr) (f : Addr) (fd : FuncData) : Prop where
  ex : ∃ (oc : Value) (od : Option Addr) (kV doc pm : Value) (an : Option Addr) (ct : Value) (osl : Array (Option Value)), fd = PySem.W.fnOf x x (defArgs st) (defBody st) (defScope st) .none kV doc pm an (.ref c) ct ∧ K.lookup f = some ⟨oc, od, .func fd, osl⟩ ∧ PySem.W.codeIn K (.ref c) x = true
theorem fnL {x : Str} {st : Stmt} {N ps : List Str} {k : Nat} {S : DSp} {b : DWS} {c f0 : Addr} {fd : FuncData} (F : DfLx K mg x st ps c f0 fd) (sc : FnScope N ps (defScope st)) (len : ∀ ds mu Φ Ξ, S ds mu Φ Ξ → ds.length = ps.length)
    (hbody : ∀ (f : Addr) (A : Around) (outer : List Env) (s : Shared) (H : Hp), Room k (A.deeper (envOfC x (defScope st) s.heap.objs.size f (.ref c))) → PSs (cxOf CX0 P w K mg base N x (defScope st) f (.ref c) A outer s H E0).nox (defBody st) (tOfS T E0 b))
    (hw : ∀ ds mu Φ, S ds mu Φ X0 → b (startD N.length ds) mu ⟨fun _ mu' => fin mu Φ .non mu', fin mu Φ, fun _ _ => False, fun _ _ => False⟩ X0) (hS : ∀ ds mu Φ Ξ, S ds mu Φ Ξ → S ds mu Φ X0) : FnOk P w K mg base CX0 (k + 1) f0 fd ps (toSp T S) := by
  obtain ⟨oc, od, kV, doc, pm, an, ct, osl, rfl, lk, hcd⟩ := F.ex
  refine fn_of (N := N) lk hcd sc (fun vs H Q E h => ?_) (fun A outer s H vs Q E hr h => ?_)
  · obtain ⟨W, ds, Φ, Ξ, e1, ok, r, hs, _⟩ := h
    rw [r.length]
    exact len ds W.mu Φ Ξ hs
  · obtain ⟨W, ds, Φ, Ξ, e1, ok, r, hs, tq, tx⟩ := h
    have hE : (cxOf CX0 P w K mg base N x (defScope st) f0 (.ref c) A outer s H E).nox = (cxOf CX0 P w K mg base N x (defScope st) f0 (.ref c) A outer s H E0).nox := rfl
    have hl := len ds W.mu Φ Ξ hs
    have hpl : ps.length ≤ N.length := by have := congrArg List.length sc.pre; rw [List.length_take] at this; omega
    refine ⟨tOfS T E0 b, (hE ▸ hbody f0 A outer s H hr : PSs (cxOf CX0 P w K mg base N x (defScope st) f0 (.ref c) A outer s H E).nox _ _).nox, W, startD N.length ds, _, X0, e1, ok, repE_start r (by omega), hw ds W.mu Φ (hS _ _ _ _ hs), ?_, TrX.none⟩
    exact ⟨fun W' σ' ρ' l ok' re h => fin_tr ok tq W' .non .non l ok' .non h, fin_tr ok tq, fun _ _ _ _ _ _ z => z.elim, fun _ _ _ _ _ _ z => z.elim⟩
end
/-- the law's promise at the head's heap: a law with lambdas in it -/
theorem lawAt {l : PySem.W.OpenLaw} {w : World} {K : PySem.W.Frag} {mg : Str → Option Value} {fA : Addr} {h : Heap} {k : Nat} {S : DSp} {st : Stmt} {fa : List He.Fa} {fn : List He.DefD} {ex : PySem.W.Frag → Bool} {q : Str} {i j : Nat}
    (hsp : ∀ (ns : List Int) mu Φ, ns.length ≤ 63 → Φ (.bl true) mu → S [.scr ns] mu Φ X0) (KX : K.In h) (Y : He.SaysX fa fn [] [("law", none)] ex w h K) (hno : ex K = true → noL K = true)
    (hmg : mg "law" = some (.ref fA)) (G : h.Ns mainGlobals mg) (hfn : fn[i]? = some (dD "law" st)) (hglo : fa[j]? = some (.glo "law")) (bnd : BindsH "law" st ["script"])
    (run : ∀ (base : Heap) (fd : FuncData), HeadS K mg fa fn ex → LamE base mg [((He.cT K ("law", none)).2, q ++ "<lambda>")] q (He.codeOf K ("law", none)) → DfLx K mg "law" st ["script"] (He.codeOf K ("law", none)) (He.ga K "law") fd →
      FnOk l.prog w K mg base CX0 k (He.ga K "law") fd ["script"] (toSp [((He.cT K ("law", none)).2, q ++ "<lambda>")] S)) : LamX.LawAtS l w K CX0 k 63 "script" mg fA h := by
  have HS : HeadS K mg fa fn ex := ⟨⟨h, KX, G⟩, Y.t.d, Y.more⟩
  have e := hmg.symm.trans (HS.glo j hglo)
  cases e
  obtain ⟨fd, FD⟩ := Y.t.d.def_ i hfn
  have F0 := fun_of FD
  have hb : ∀ (s : Shared) (u : Value), BindsTo s fd ⟨[u], []⟩ [("script", u)] := fun s u => L2.FunD.bindsA (ps := ["script"]) FD bnd s [u] rfl
  have DF : DfLx K mg "law" st ["script"] (He.codeOf K ("law", none)) (He.ga K "law") fd := by
    obtain ⟨oc, od, kV, doc, pm, an, cdv, ct, osl, rfl, lk, hcd⟩ := F0.ex
    obtain ⟨c, e⟩ := He.codeIn_ref hcd
    subst e
    have e2 : He.codeOf K ("law", none) = c := He.codeOf_eq lk rfl
    rw [e2]
    exact ⟨oc, od, kV, doc, pm, an, ct, osl, rfl, lk, hcd⟩
  refine ⟨fd, [He.cT K ("law", none)], toSp [((He.cT K ("law", none)).2, q ++ "<lambda>")] S, fun p hp => ?_, fun p hp => ?_, fun p hp => ?_, hb, fun H a ns hl _ hT hS => ?_, fun base hB hN hTB => ?_⟩
  · rw [List.mem_singleton.mp hp]
    exact Y.empty _ List.mem_cons_self
  · rw [List.mem_singleton.mp hp]
    exact Y.out _ List.mem_cons_self
  · rw [List.mem_singleton.mp hp]
    exact PySem.W.codeHd_of_K KX (Y.hd _ List.mem_cons_self)
  · have nh : ¬ Hid ⟨[], [], [], H⟩ a := fun z => by
      rcases z with z | ⟨k, o, z, _⟩
      · cases z
      · cases z
    refine ⟨⟨[], [], [], H⟩, [.scr ns], fun d _ => d = .bl true, X0, rfl, ⟨rfl, .nil, fun a ha => (by cases ha), fun a ha => (by cases ha), fun k a o h1 _ => (by cases h1), fun p hp => ?_⟩, .cons (Rep.scr nh (rd_of_sql (hno Y.more) hS)) .nil, hsp ns _ _ hl rfl, fun W' d v l ok r h => ?_, TrX.none⟩
    · rw [List.mem_singleton.mp hp]
      exact LamX.TabS.nil (hT _ List.mem_cons_self)
    · subst h
      exact r.bl_of
  · exact run base fd HS ⟨_, hTB _ List.mem_cons_self, List.mem_cons_self, fun p hp _ => by rw [List.mem_singleton.mp hp]⟩ DF
end DL
set_option maxHeartbeats 4000000
/-! DX7: is, is not of booleans. -/
namespace DL
open PySem PySem.Spec PyProof.Rows L2
section
variable {X : Cx} {T : List (Addr × Str)}
theorem bl_beq (a b : Bool) : (Value.bool a == Value.bool b) = decide (a = b) := by
  cases a <;> cases b <;> decide +kernel
theorem op_isBl : OpR X (compareOp .Is) (fun x y H Q => ∃ a b, x = .bl a ∧ y = .bl b ∧ Q (.bl (decide (a = b))) H) := by
  intro pins s σ H x y v u Q I rx ry h
  obtain ⟨a, b, rfl, rfl, q⟩ := h
  cases (show v = Value.bool a from rx)
  cases (show u = Value.bool b from ry)
  exact wpAny_is_plain rfl (fin_bl I q (bl_beq a b).symm)
theorem op_notBl : OpR X (compareOp .IsNot) (fun x y H Q => ∃ a b, x = .bl a ∧ y = .bl b ∧ Q (.bl (!decide (a = b))) H) := by
  intro pins s σ H x y v u Q I rx ry h
  obtain ⟨a, b, rfl, rfl, q⟩ := h
  cases (show v = Value.bool a from rx)
  cases (show u = Value.bool b from ry)
  exact wpAny_isNot_plain rfl (fin_bl I q (congrArg not (bl_beq a b).symm))
def dIsBl : DR := fun x y mu Φ => match x, y with | .bl a, .bl b => Φ (.bl (decide (a = b))) mu | _, _ => False
def dNotBl : DR := fun x y mu Φ => match x, y with | .bl a, .bl b => Φ (.bl (!decide (a = b))) mu | _, _ => False
theorem s_isBl : SimR T (fun x y H Q => ∃ a b, x = .bl a ∧ y = .bl b ∧ Q (.bl (decide (a = b))) H) dIsBl := fun W x y u v Φ Q ok rx ry h tq => by
  match x, y, h, rx, ry with
  | .bl a, .bl b, h, rx, ry => exact ⟨a, b, rx.bl_of, ry.bl_of, tq W _ _ (.refl W) ok .bl h⟩
theorem s_notBl : SimR T (fun x y H Q => ∃ a b, x = .bl a ∧ y = .bl b ∧ Q (.bl (!decide (a = b))) H) dNotBl := fun W x y u v Φ Q ok rx ry h tq => by
  match x, y, h, rx, ry with
  | .bl a, .bl b, h, rx, ry => exact ⟨a, b, rx.bl_of, ry.bl_of, tq W _ _ (.refl W) ok .bl h⟩
end
end DL
set_option maxHeartbeats 4000000
/-! DX8: tuple * int, also by 0 and by 1. -/
namespace DL
open PySem PySem.Spec PyProof.Rows L2
theorem tuple_mul0 (l : Addr) (items : Array Value) (n : Nat) (dd : Option Addr) (sl : Array (Option Value)) (u : Tok) (c1 : items.isEmpty = false) :
    Meets (Builtin.«tuple.__mul__» ⟨[.ref l, .int 0 u], []⟩) (fun _ R s => s.heap.get? l = some { cls := .type "tuple", dict := dd, data := .seq items n, slots := sl } ∧
      R (.ok (.ret (Value.ref s.heap.objs.size))) { s with heap := s.heap.push { cls := Value.type "tuple", data := Data.seq #[] }, toks := s.toks }) :=
  .of_wp fun prog w A R s h => by
    obtain ⟨hp, g, d, tk, os⟩ := s
    obtain ⟨hl, h⟩ := h
    have f1 := AutoSeq1.idx_int
    wp_walk using wpAny_loadPart' hl
    repeat (first
      | (refine wpAny_ite_false (decide_eq_false (by first | decide | (rw [c1]; decide))) ?_; wp_walk using wpAny_loadPart' hl)
      | (refine wpAny_ite_true (decide_eq_true (by first | decide | (rw [c1]; decide))) ?_; wp_walk using wpAny_loadPart' hl))
    exact ⟨_, rfl, h⟩
theorem tuple_mul1 (l : Addr) (items : Array Value) (n : Nat) (dd : Option Addr) (sl : Array (Option Value)) (u : Tok) :
    Meets (Builtin.«tuple.__mul__» ⟨[.ref l, .int 1 u], []⟩) (fun _ R s => s.heap.get? l = some { cls := .type "tuple", dict := dd, data := .seq items n, slots := sl } ∧
      R (.ok (.ret (Value.ref l))) s) :=
  .of_wp fun prog w A R s h => by
    obtain ⟨hp, g, d, tk, os⟩ := s
    obtain ⟨hl, h⟩ := h
    have f1 := AutoSeq1.idx_int
    wp_walk using wpAny_loadPart' hl
    repeat (first
      | (refine wpAny_ite_false (decide_eq_false (by first | decide)) ?_; wp_walk using wpAny_loadPart' hl)
      | (refine wpAny_ite_true (decide_eq_true (by first | decide | (rw [Bool.or_eq_true]; exact .inr rfl))) ?_; wp_walk using wpAny_loadPart' hl))
    exact ⟨_, rfl, h⟩
section
variable {X : Cx} {T : List (Addr × Str)}
def rRepT0 (K : PySem.W.Frag) : R2 := fun x y H Q => ∃ l xs, x = .ref l ∧ y = .int 0 ∧ SqT K H l xs ∧ xs ≠ [] ∧ ∀ p, H p = none → Q (.ref p) (upd H p (.tup []))
def rRepT1 (K : PySem.W.Frag) : R2 := fun x y H Q => ∃ l xs, x = .ref l ∧ y = .int 1 ∧ SqT K H l xs ∧ Q (.ref l) H
theorem op_repT0 : OpR X (binaryOp .Mult) (rRepT0 X.K) := by
  intro pins s σ H x y v u Q I rx ry h
  obtain ⟨l, xs, rfl, rfl, hT, hne, q⟩ := h
  cases rx
  obtain ⟨t, rfl⟩ := ry
  obtain ⟨its, r, ⟨⟨cls, dd, data, sl⟩, ho, hc, n, hd⟩, hs⟩ := I.tuple hT
  simp only at hc hd
  subst hc hd
  have hle : its.length = xs.length := r.length.symm
  have hn : its ≠ [] := fun e => hne (by
    rw [e] at hle
    exact List.eq_nil_of_length_eq_zero hle.symm)
  have hi : its.toArray.isEmpty = false := by
    cases its with
    | nil => exact absurd rfl hn
    | cons a b => rfl
  refine wpAny_binaryOp_repeat_ref (T := "tuple") (U := "int") (by decide) ⟨_, ho, rfl⟩ (fun s' => typeIs_int s' 0 t) noFill_tuple_mul F.fills_int_mul F.slot_int_rmul repeat_tuple F.slot_int_index.lookup
    (call_meets F.slot_int_rmul (typeIs_int s 0 t) F.entry_int_rmul (F.args_int_rmul_2 _ _) (int_rmul_tuple 0 t l its.toArray n dd sl)
      ⟨ho, rfl, ⟨_, ho, rfl⟩, call_meets F.slot_tuple_mul ⟨_, ho, rfl⟩ F.entry_tuple_mul (F.args_tuple_mul_2 _ _) (tuple_mul0 l its.toArray n dd sl t hi) ⟨ho, ?_⟩⟩)
  refine ⟨.ref s.heap.objs.size, _, I.laid (t' := s.toks) (o := .tup []) (fun b ob q => Heap.get?_push_of_some _ q) (Nat.le_refl _) ?_, rfl, q _ (I.hok.fresh (Nat.le_refl _))⟩
  exact ⟨Nat.zero_le _, _, .nil, IsTup.new _ _⟩
theorem op_repT1 : OpR X (binaryOp .Mult) (rRepT1 X.K) := by
  intro pins s σ H x y v u Q I rx ry h
  obtain ⟨l, xs, rfl, rfl, hT, q⟩ := h
  cases rx
  obtain ⟨t, rfl⟩ := ry
  obtain ⟨its, r, ⟨⟨cls, dd, data, sl⟩, ho, hc, n, hd⟩, hs⟩ := I.tuple hT
  simp only at hc hd
  subst hc hd
  refine wpAny_binaryOp_repeat_ref (T := "tuple") (U := "int") (by decide) ⟨_, ho, rfl⟩ (fun s' => typeIs_int s' 1 t) noFill_tuple_mul F.fills_int_mul F.slot_int_rmul repeat_tuple F.slot_int_index.lookup
    (call_meets F.slot_int_rmul (typeIs_int s 1 t) F.entry_int_rmul (F.args_int_rmul_2 _ _) (int_rmul_tuple 1 t l its.toArray n dd sl)
      ⟨ho, rfl, ⟨_, ho, rfl⟩, call_meets F.slot_tuple_mul ⟨_, ho, rfl⟩ F.entry_tuple_mul (F.args_tuple_mul_2 _ _) (tuple_mul1 l its.toArray n dd sl t) ⟨ho, ?_⟩⟩)
  exact ⟨.ref l, H, I, rfl, q⟩
theorem op_mulT : OpR X (binaryOp .Mult) (fun x y H Q => rRepT0 X.K x y H Q ∨ rRepT1 X.K x y H Q ∨ rRepT X.K x y H Q) := op_repT0.or (op_repT1.or op_repT)
def dMulT : DR := fun x y mu Φ => match x, y with
  | .tup xs, .int k => (0 ≤ k ∧ k ≤ 1000 ∧ xs.length ≤ 1000 ∧ xs ≠ []) ∧ Φ (.tup (List.replicate k.toNat xs).flatten) mu
  | _, _ => False
theorem s_mulT {K : PySem.W.Frag} : SimR T (fun x y H Q => rRepT0 K x y H Q ∨ rRepT1 K x y H Q ∨ rRepT K x y H Q) dMulT := fun W x y u v Φ Q ok rx ry h tq => by
  match x, y, h, rx, ry with
  | .tup xs, .int k, h, rx, ry =>
    obtain ⟨⟨a1, a2, a3, a4⟩, h⟩ := h
    obtain ⟨p, vs, rfl, n1, h1, h2⟩ := rx.tup_of
    have hne : vs ≠ [] := fun e => a4 (List.eq_nil_of_length_eq_zero (by rw [← h2.length, e]; rfl))
    by_cases h0 : k = 0
    · subst h0
      exact .inl ⟨p, vs, rfl, ry.int_of, SqT.of h1, hne, tq.tup ok .nil h⟩
    · by_cases h3 : k = 1
      · subst h3
        refine .inr (.inl ⟨p, vs, rfl, ry.int_of, SqT.of h1, tq W _ _ (.refl W) ok (Rep.tup n1 h1 h2) ?_⟩)
        have e : (List.replicate (Int.toNat 1) xs).flatten = xs := by show xs ++ [] = xs; exact List.append_nil xs
        rw [e] at h
        exact h
      · exact .inr (.inr ⟨p, k, vs, rfl, ry.int_of, SqT.of h1, hne, by omega, a2, by rw [h2.length]; exact a3, tq.tup ok (h2.rep _) h⟩)
/-- a, b, c = x, y, z -/
def wPar3 (i j l : Nat) (wr : DWA) : DWS := fun ρ mu Δ Ξ => wr ρ mu (fun ds mu1 => match ds with | [x, y, z] => Δ.nx (((ρ.set i (some x)).set j (some y)).set l (some z)) mu1 | _ => False) Ξ
theorem ds_par3 {E : XK} {st : Stmt} {i j l n : Nat} {wr : DWA} (h : PS X st (tPar3 i j l (tOfA T E n wr))) : PS X st (tOfS T E (wPar3 i j l wr)) := h.imp fun D σ H ⟨W, ρ, Δ, Ξ, e1, ok, re, hw, ts, tx⟩ =>
  ⟨W, ρ, _, Ξ, e1, ok, re, hw, fun W1 ds vs l1 ok1 r1 hl h1 => by
    match ds, h1 with
    | [x, y, z], h1 =>
      obtain ⟨v, r, rfl, ra, q1⟩ := r1.uncons
      obtain ⟨v2, r2, rfl, rb, q2⟩ := q1.uncons
      obtain ⟨v3, r3, rfl, rc, q3⟩ := q2.uncons
      rw [q3.nil_of]
      exact ⟨v, v2, v3, rfl, ts.nx W1 _ _ l1 ok1 ((((re.mono l1).set ra i).set rb j).set rc l) h1⟩, tx⟩
end
end DL
set_option maxHeartbeats 4000000
/-! DU: loops and comprehensions by an invariant, read once for all. -/
namespace DL
open PySem PySem.Spec PyProof.Rows L2
theorem for_inv_go {dg : DG} {b : DWS} {Δ : DEnds} {Ξ : XD} {all : List D} (I : Nat → EnvD → MS → Prop)
    (step : ∀ (i : Nat) (d : D) (ρ : EnvD) (mu : MS) (Kp : EnvD → MS → Prop), all[i]? = some d → I i ρ mu → (∀ ρ' mu', I (i + 1) ρ' mu' → Kp ρ' mu') → dg d ρ fun ρ1 => b ρ1 mu ⟨Kp, Δ.rt, Δ.nx, Kp⟩ Ξ)
    (fi : ∀ ρ mu, I all.length ρ mu → Δ.nx ρ mu) : ∀ (xs : List D) (i : Nat) (ρ : EnvD) (mu : MS), all.drop i = xs → i ≤ all.length → I i ρ mu → wForGo dg b xs ρ mu Δ Ξ
  | [], i, ρ, mu, e, hi, h => by
    have : i = all.length := by have := congrArg List.length e; rw [List.length_drop] at this; simp at this; omega
    subst this
    exact fi ρ mu h
  | x :: xs, i, ρ, mu, e, hi, h => by
    have hx : all[i]? = some x := by rw [← Nat.add_zero i, ← List.getElem?_drop, e]; rfl
    have hl := (List.getElem?_eq_some_iff.mp hx).1
    exact step i x ρ mu _ hx h fun ρ' mu' h' => for_inv_go I step fi xs (i + 1) ρ' mu' (by rw [← List.drop_drop, e]; rfl) hl h'
theorem for_inv {dg : DG} {b : DWS} {Δ : DEnds} {Ξ : XD} {all : List D} {ρ : EnvD} {mu : MS} (I : Nat → EnvD → MS → Prop) (h0 : I 0 ρ mu)
    (step : ∀ (i : Nat) (d : D) (ρ : EnvD) (mu : MS) (Kp : EnvD → MS → Prop), all[i]? = some d → I i ρ mu → (∀ ρ' mu', I (i + 1) ρ' mu' → Kp ρ' mu') → dg d ρ fun ρ1 => b ρ1 mu ⟨Kp, Δ.rt, Δ.nx, Kp⟩ Ξ)
    (fi : ∀ ρ mu, I all.length ρ mu → Δ.nx ρ mu) : wForGo dg b all ρ mu Δ Ξ := for_inv_go I step fi all 0 ρ mu rfl (Nat.zero_le _) h0
theorem lc_inv_go {dg : DG} {tt : DWT} {w : DW} {ρ : EnvD} {vs : List Nat} {all : List D} {Φ : List D → MS → Prop} (I : Nat → List D → MS → Prop)
    (step : ∀ (i : Nat) (d : D) (acc : List D) (mu : MS) (Kp : List D → MS → Prop), all[i]? = some d → I i acc mu → (∀ acc' mu', I (i + 1) acc' mu' → Kp acc' mu') →
      dg d (wipeD ρ vs) fun ρ1 => tt ρ1 mu (fun k mu1 => if k = true then w ρ1 mu1 (fun y mu2 => Kp (acc ++ [y]) mu2) X0 else Kp acc mu1) X0)
    (fi : ∀ acc mu, I all.length acc mu → Φ acc mu) : ∀ (xs : List D) (i : Nat) (acc : List D) (mu : MS), all.drop i = xs → i ≤ all.length → I i acc mu → wLcGo dg tt w ρ vs acc xs mu Φ
  | [], i, acc, mu, e, hi, h => by
    have : i = all.length := by have := congrArg List.length e; rw [List.length_drop] at this; simp at this; omega
    subst this
    exact fi acc mu h
  | x :: xs, i, acc, mu, e, hi, h => by
    have hx : all[i]? = some x := by rw [← Nat.add_zero i, ← List.getElem?_drop, e]; rfl
    have hl := (List.getElem?_eq_some_iff.mp hx).1
    exact step i x acc mu (fun acc' mu' => wLcGo dg tt w ρ vs acc' xs mu' Φ) hx h fun acc' mu' h' => lc_inv_go I step fi xs (i + 1) acc' mu' (by rw [← List.drop_drop, e]; rfl) hl h'
theorem lc_inv {dg : DG} {tt : DWT} {w : DW} {ρ : EnvD} {vs : List Nat} {all : List D} {mu : MS} {Φ : List D → MS → Prop} (I : Nat → List D → MS → Prop) (h0 : I 0 [] mu)
    (step : ∀ (i : Nat) (d : D) (acc : List D) (mu : MS) (Kp : List D → MS → Prop), all[i]? = some d → I i acc mu → (∀ acc' mu', I (i + 1) acc' mu' → Kp acc' mu') →
      dg d (wipeD ρ vs) fun ρ1 => tt ρ1 mu (fun k mu1 => if k = true then w ρ1 mu1 (fun y mu2 => Kp (acc ++ [y]) mu2) X0 else Kp acc mu1) X0)
    (fi : ∀ acc mu, I all.length acc mu → Φ acc mu) : wLcGo dg tt w ρ vs [] all mu Φ := lc_inv_go I step fi all 0 [] mu rfl (Nat.zero_le _) h0
/-- a comprehension without a test whose elements change nothing -/
theorem lc_map {α : Type} {dg : DG} {w : DW} {ρ : EnvD} {vs : List Nat} {mu : MS} {Φ : List D → MS → Prop} {xs : List α} {f g : α → D}
    (he : ∀ x ∈ xs, ∀ Ψ : D → MS → Prop, Ψ (g x) mu → dg (f x) (wipeD ρ vs) fun ρ1 => w ρ1 mu Ψ X0) (fi : Φ (xs.map g) mu) : wLcGo dg wYes w ρ vs [] (xs.map f) mu Φ := by
  refine lc_inv (fun i acc mu' => mu' = mu ∧ acc = (xs.take i).map g) ⟨rfl, by simp⟩ (fun i d acc mu' Kp hd hI hK => ?_) fun acc mu' h => ?_
  · obtain ⟨rfl, rfl⟩ := hI
    rw [List.getElem?_map] at hd
    cases hx : xs[i]? with
    | none => rw [hx] at hd; cases hd
    | some x =>
      rw [hx] at hd
      cases hd
      unfold wYes
      simp only [if_true]
      refine he x (List.mem_of_getElem? hx) _ (hK _ _ ⟨rfl, ?_⟩)
      rw [List.take_add_one, hx, List.map_append]
      rfl
  · obtain ⟨rfl, rfl⟩ := h
    rw [List.length_map, List.take_length]
    exact fi
/-- .. with a test -/
theorem lc_filt {α : Type} {dg : DG} {tt : DWT} {w : DW} {ρ : EnvD} {vs : List Nat} {mu : MS} {Φ : List D → MS → Prop} {xs : List α} {f g : α → D} {p : α → Bool}
    (he : ∀ x ∈ xs, ∀ (Ψ : Bool → MS → Prop) (Ψ2 : D → MS → Prop), (p x = false → Ψ false mu) → (p x = true → Ψ2 (g x) mu) → dg (f x) (wipeD ρ vs) fun ρ1 => tt ρ1 mu (fun k mu1 => if k = true then w ρ1 mu1 Ψ2 X0 else Ψ false mu1) X0)
    (fi : Φ ((xs.filter p).map g) mu) : wLcGo dg tt w ρ vs [] (xs.map f) mu Φ := by
  refine lc_inv (fun i acc mu' => mu' = mu ∧ acc = ((xs.take i).filter p).map g) ⟨rfl, by simp⟩ (fun i d acc mu' Kp hd hI hK => ?_) fun acc mu' h => ?_
  · obtain ⟨rfl, rfl⟩ := hI
    rw [List.getElem?_map] at hd
    cases hx : xs[i]? with
    | none => rw [hx] at hd; cases hd
    | some x =>
      rw [hx] at hd
      cases hd
      refine he x (List.mem_of_getElem? hx) (fun _ mu1 => Kp (((xs.take i).filter p).map g) mu1) (fun y mu2 => Kp (((xs.take i).filter p).map g ++ [y]) mu2) (fun hp => hK _ _ ⟨rfl, ?_⟩) (fun hp => hK _ _ ⟨rfl, ?_⟩)
      · rw [List.take_add_one, hx, List.filter_append]
        simp [hp]
      · rw [List.take_add_one, hx, List.filter_append]
        simp [hp]
  · obtain ⟨rfl, rfl⟩ := h
    rw [List.length_map, List.take_length]
    exact fi
theorem rgD_map (lo : Int) (n : Nat) : rgD lo n = (List.range n).map fun i : Nat => D.int (lo + (i : Int)) := rfl
theorem rgD0 (n : Nat) : rgD 0 n = (List.range n).map fun i : Nat => D.int (i : Int) := by
  unfold rgD
  refine List.map_congr_left fun i _ => ?_
  rw [Int.zero_add]
theorem enD_map : ∀ (xs : List D), enD 0 xs = (List.range xs.length).map fun (i : Nat) => D.tup [.int (i : Int), xs.getD i .non] := fun xs => by
  refine List.ext_getElem? fun i => ?_
  rw [enD_get, List.getElem?_map]
  by_cases h : i < xs.length
  · rw [List.getElem?_range h, List.getElem?_eq_getElem h, Nat.zero_add]
    simp [List.getD, List.getElem?_eq_getElem h]
  · rw [List.getElem?_eq_none (by omega), List.getElem?_eq_none (by rw [List.length_range]; omega)]
    rfl
end DL
set_option maxHeartbeats 4000000
/-! DY1: dicts that may change: keys that are ints and texts, keys that are tuples of these. -/
namespace DL
open PySem PySem.Spec PyProof.Rows L2
def keyD : D → Option Key
  | .int i => some (.inl i)
  | .str x => some (.inr x)
  | _ => none
def keysD : List D → Option (List Key)
  | [] => some []
  | d :: r => match keyD d, keysD r with
    | some k, some ks => some (k :: ks)
    | _, _ => none
def dKey : Key → D
  | .inl i => .int i
  | .inr x => .str x
theorem keyD_rep {W : Wd} {d : D} {v : V} {k : Key} (h : keyD d = some k) (r : Rep W d v) : v = kV k := by
  cases d <;> first | (cases h; done) | skip
  · cases h
    exact r.int_of
  · cases h
    exact r.str_of
theorem keysD_rep {W : Wd} : ∀ {ds : List D} {vs : List V} {ks : List Key}, keysD ds = some ks → RepL W ds vs → vs = ks.map kV
  | [], _, _, h, r => by
    cases h
    exact r.nil_of
  | d :: ds, _, ks, h, r => by
    obtain ⟨v, s, rfl, h1, h2⟩ := r.uncons
    unfold keysD at h
    cases e1 : keyD d with
    | none => rw [e1] at h; cases h
    | some k =>
      cases e2 : keysD ds with
      | none => rw [e1, e2] at h; cases h
      | some ks' =>
        rw [e1, e2] at h
        cases h
        rw [keyD_rep e1 h1, keysD_rep e2 h2]
        rfl
theorem dKey_rep {W : Wd} {k : Key} {v : V} (h : v = kV k) : Rep W (dKey k) v := by
  subst h
  cases k with
  | inl i => exact Rep.int
  | inr x => exact Rep.str
section
variable {κ : Type} [DecidableEq κ]
def valD (kvs : List (κ × D)) (k : κ) : Option D := (kvs.find? fun kv => decide (kv.1 = k)).map (·.2)
def putD (kvs : List (κ × D)) (k : κ) (d : D) : List (κ × D) := if (kvs.any fun kv => decide (kv.1 = k)) = true then kvs.map (fun kv => if kv.1 = k then (kv.1, d) else kv) else kvs ++ [(k, d)]
theorem RepF.length {W : Wd} : ∀ {kvs : List (κ × D)} {vs : List (κ × V)}, RepF W kvs vs → vs.length = kvs.length
  | [], _, h => by rw [show _ = [] from h]; rfl
  | p :: r, _, ⟨v, s, e, _, h2⟩ => by rw [e, List.length_cons, List.length_cons, RepF.length h2]
theorem RepF.val {W : Wd} {k : κ} : ∀ {kvs : List (κ × D)} {vs : List (κ × V)}, RepF W kvs vs → (∀ d, valD kvs k = some d → ∃ v, valV vs k = some v ∧ Rep W d v) ∧ (valD kvs k = none → valV vs k = none)
  | [], _, h => by
    rw [show _ = [] from h]
    exact ⟨fun d e => (by cases e), fun _ => rfl⟩
  | p :: r, _, ⟨v, s, e, h1, h2⟩ => by
    obtain ⟨i1, i2⟩ := RepF.val (k := k) h2
    rw [e]
    by_cases hk : p.1 = k
    · have e1 : valD (p :: r) k = some p.2 := by simp [valD, List.find?_cons, hk]
      have e2 : valV ((p.1, v) :: s) k = some v := valV_pos hk
      rw [e1, e2]
      exact ⟨fun d e => ⟨v, rfl, by cases e; exact h1⟩, fun z => by cases z⟩
    · have e1 : valD (p :: r) k = valD r k := by simp [valD, List.find?_cons, hk]
      have e2 : valV ((p.1, v) :: s) k = valV s k := valV_neg hk
      rw [e1, e2]
      exact ⟨i1, i2⟩
theorem RepF.any {W : Wd} {k : κ} : ∀ {kvs : List (κ × D)} {vs : List (κ × V)}, RepF W kvs vs → (kvs.any fun kv => decide (kv.1 = k)) = (vs.any fun kv => decide (kv.1 = k))
  | [], _, h => by rw [show _ = [] from h]; rfl
  | p :: r, _, ⟨v, s, e, h1, h2⟩ => by rw [e, List.any_cons, List.any_cons, RepF.any h2]
theorem RepF.mapput {W : Wd} {k : κ} {d : D} {v : V} (hd : Rep W d v) : ∀ {kvs : List (κ × D)} {vs : List (κ × V)}, RepF W kvs vs → RepF W (kvs.map fun kv => if kv.1 = k then (kv.1, d) else kv) (vs.map fun kv => if kv.1 = k then (kv.1, v) else kv)
  | [], _, h => by rw [show _ = [] from h]; exact rfl
  | p :: r, _, ⟨u, s, e, h1, h2⟩ => by
    rw [e, List.map_cons, List.map_cons]
    by_cases hk : p.1 = k
    · rw [if_pos hk, if_pos (show (p.1, u).1 = k from hk)]
      exact ⟨v, _, rfl, hd, RepF.mapput hd h2⟩
    · rw [if_neg hk, if_neg (show ¬ (p.1, u).1 = k from hk)]
      exact ⟨u, _, rfl, h1, RepF.mapput hd h2⟩
theorem RepF.snoc {W : Wd} {k : κ} {d : D} {v : V} (hd : Rep W d v) : ∀ {kvs : List (κ × D)} {vs : List (κ × V)}, RepF W kvs vs → RepF W (kvs ++ [(k, d)]) (vs ++ [(k, v)])
  | [], _, h => by rw [show _ = [] from h]; exact ⟨v, [], rfl, hd, rfl⟩
  | p :: r, _, ⟨u, s, e, h1, h2⟩ => by rw [e]; exact ⟨u, _, rfl, h1, RepF.snoc hd h2⟩
theorem RepF.put {W : Wd} {k : κ} {d : D} {v : V} {kvs : List (κ × D)} {vs : List (κ × V)} (h : RepF W kvs vs) (hd : Rep W d v) : RepF W (putD kvs k d) (putK vs k v) := by
  unfold putD putK
  rw [h.any (k := k)]
  by_cases e : (vs.any fun kv => decide (kv.1 = k)) = true
  · rw [if_pos e, if_pos e]
    exact h.mapput hd
  · rw [if_neg e, if_neg e]
    exact h.snoc hd
theorem RepF.at {W : Wd} : ∀ {kvs : List (κ × D)} {vs : List (κ × V)} {i : Nat} {p : κ × D}, RepF W kvs vs → kvs[i]? = some p → ∃ v, vs[i]? = some (p.1, v) ∧ Rep W p.2 v
  | [], _, _, _, _, e => by simp at e
  | q :: r, _, 0, p, ⟨v, s, e, h1, h2⟩, e0 => by
    simp at e0
    subst e0
    rw [e]
    exact ⟨v, rfl, h1⟩
  | q :: r, _, i + 1, p, ⟨v, s, e, h1, h2⟩, e0 => by
    obtain ⟨u, a, b⟩ := RepF.at (i := i) h2 (by simpa using e0)
    rw [e]
    exact ⟨u, by simpa using a, b⟩
end
def tkD : D → Option (List Key)
  | .tup ds => keysD ds
  | _ => none
theorem tkD_rep {W : Wd} {d : D} {v : V} {k : List Key} (h : tkD d = some k) (r : Rep W d v) : ∃ b, v = .ref b ∧ W.H b = some (.tup (k.map kV)) := by
  cases d with
  | tup ds =>
    obtain ⟨b, us, rfl, _, g1, g2⟩ := r.tup_of
    rw [keysD_rep (show keysD ds = some k from h) g2] at g1
    exact ⟨b, rfl, g1⟩
  | _ => cases h
/-- what a mutable object tells of a key -/
def lookM (m : MO) (d : D) : Option (Option D) := match m with
  | .dk kvs => (keyD d).map fun k => valD kvs k
  | .lk _ _ kvs => (keyD d).map fun k => valD kvs k
  | .dt kvs => (tkD d).map fun k => valD kvs k
  | .lt _ _ kvs => (tkD d).map fun k => valD kvs k
  | _ => none
def isDk : MO → Bool
  | .dk _ => true
  | .lk _ _ _ => true
  | .dt _ => true
  | .lt _ _ _ => true
  | _ => false
def putM (m : MO) (d x : D) : Option MO := match m with
  | .dk kvs => if kvs.length < 100000 then (keyD d).map fun k => .dk (putD kvs k x) else none
  | .dt kvs => if kvs.length < 100000 then (tkD d).map fun k => .dt (putD kvs k x) else none
  | _ => none
section
variable {T : List (Addr × Str)} {W : Wd}
theorem dget_of (ok : WOk T W) {k : Nat} {a : Addr} {m : MO} (ha : W.as[k]? = some a) (hm : W.mu[k]? = some m) {d : D} {y : V} (hd : Rep W d y) {r : Option D} (h : lookM m d = some r) :
    ∃ o, DGet W.H a y o ∧ (∀ x, r = some x → ∃ v, o = some v ∧ Rep W x v) ∧ (r = none → o = none) := by
  have z := ok.ob k a m ha hm
  cases m with
  | dk kvs =>
    obtain ⟨vs, h1, h2⟩ := z
    obtain ⟨key, e1, e2⟩ := Option.map_eq_some_iff.mp (show (keyD d).map (fun k => valD kvs k) = some r from h)
    subst e2
    rw [keyD_rep e1 hd]
    obtain ⟨i1, i2⟩ := h2.val (k := key)
    exact ⟨valV vs key, .inl ⟨vs, key, .inl h1, rfl, rfl⟩, fun x e => i1 x e, i2⟩
  | lk od vs kvs =>
    obtain ⟨h1, h2⟩ := z
    obtain ⟨key, e1, e2⟩ := Option.map_eq_some_iff.mp (show (keyD d).map (fun k => valD kvs k) = some r from h)
    subst e2
    rw [keyD_rep e1 hd]
    obtain ⟨i1, i2⟩ := h2.val (k := key)
    exact ⟨valV vs key, .inl ⟨vs, key, .inr ⟨od, h1⟩, rfl, rfl⟩, fun x e => i1 x e, i2⟩
  | dt kvs =>
    obtain ⟨vs, h1, h2⟩ := z
    obtain ⟨key, e1, e2⟩ := Option.map_eq_some_iff.mp (show (tkD d).map (fun k => valD kvs k) = some r from h)
    subst e2
    obtain ⟨b, rfl, g1⟩ := tkD_rep e1 hd
    obtain ⟨i1, i2⟩ := h2.val (k := key)
    exact ⟨valV vs key, .inr ⟨vs, key, b, .inl h1, rfl, g1, rfl⟩, fun x e => i1 x e, i2⟩
  | lt od vs kvs =>
    obtain ⟨h1, h2⟩ := z
    obtain ⟨key, e1, e2⟩ := Option.map_eq_some_iff.mp (show (tkD d).map (fun k => valD kvs k) = some r from h)
    subst e2
    obtain ⟨b, rfl, g1⟩ := tkD_rep e1 hd
    obtain ⟨i1, i2⟩ := h2.val (k := key)
    exact ⟨valV vs key, .inr ⟨vs, key, b, .inr ⟨od, h1⟩, rfl, g1, rfl⟩, fun x e => i1 x e, i2⟩
  | gone => cases h
  | lst xs => cases h
  | ins C fs => cases h
theorem isD_of (ok : WOk T W) {k : Nat} {a : Addr} {m : MO} (ha : W.as[k]? = some a) (hm : W.mu[k]? = some m) (h : isDk m = true) : IsD W.H a := by
  have z := ok.ob k a m ha hm
  cases m with
  | dk kvs =>
    obtain ⟨vs, h1, _⟩ := z
    exact .inl ⟨vs, .inl h1⟩
  | lk od vs kvs => exact .inl ⟨vs, .inr ⟨od, z.1⟩⟩
  | dt kvs =>
    obtain ⟨vs, h1, _⟩ := z
    exact .inr ⟨vs, .inl h1⟩
  | lt od vs kvs => exact .inr ⟨vs, .inr ⟨od, z.1⟩⟩
  | gone => cases h
  | lst xs => cases h
  | ins C fs => cases h
end
def wDGet (wo wi : DW) : DW := fun ρ mu Φ Ξ => wo ρ mu (fun o mu1 => wi ρ mu1 (fun y mu2 => match o with
  | .loc k => (match mu2[k]? with | some m => (match lookM m y with | some (some x) => Φ x mu2 | _ => False) | none => False)
  | _ => False) Ξ) Ξ
def wDGet2 (wo wi wx : DW) : DW := fun ρ mu Φ Ξ => wo ρ mu (fun o mu1 => match o with
  | .loc k => (match mu1[k]? with
    | some m0 => isDk m0 = true ∧ wi ρ mu1 (fun y mu2 => wx ρ mu2 (fun z mu3 => match mu3[k]? with | some m => (match lookM m y with | some r => Φ (r.getD z) mu3 | none => False) | none => False) Ξ) Ξ
    | none => False)
  | _ => False) Ξ
def wDIn (wi wo : DW) : DW := fun ρ mu Φ Ξ => wi ρ mu (fun y mu1 => wo ρ mu1 (fun o mu2 => match o with
  | .loc k => (match mu2[k]? with | some m => (match lookM m y with | some r => Φ (.bl r.isSome) mu2 | none => False) | none => False)
  | _ => False) Ξ) Ξ
def wDNotIn (wi wo : DW) : DW := fun ρ mu Φ Ξ => wi ρ mu (fun y mu1 => wo ρ mu1 (fun o mu2 => match o with
  | .loc k => (match mu2[k]? with | some m => (match lookM m y with | some r => Φ (.bl (!r.isSome)) mu2 | none => False) | none => False)
  | _ => False) Ξ) Ξ
def wDPut (wv wo wi : DW) : DWS := fun ρ mu Δ Ξ => wv ρ mu (fun d mu1 => wo ρ mu1 (fun o mu2 => wi ρ mu2 (fun y mu3 => match o with
  | .loc k => (match mu3[k]? with | some m => (match putM m y d with | some m' => Δ.nx ρ (mu3.set k m') | none => False) | none => False)
  | _ => False) Ξ) Ξ) Ξ
def wDNewK : DW := fun ρ mu Φ _ => Φ (.loc mu.length) (mu ++ [.dk []])
def wDNewT : DW := fun ρ mu Φ _ => Φ (.loc mu.length) (mu ++ [.dt []])
section
variable {X : Cx} {T : List (Addr × Str)} {E : XK} {o e f i value : Expr} {wo wi wx wv : DW} {pos pos' apos cpos : Pos}
theorem de_dget (hu : X.A.units + 1 < cLine) (ho : PE X o (tOf T E wo)) (hi : PE X i (tOf T E wi)) (hs : NoSl i := by intro _ _; rfl) : PE X (.Subscript o i pos) (tOf T E (wDGet wo wi)) := (pe_dget hu ho hi hs).imp fun σ H Q h => by
  obtain ⟨W, ρ, Φ, Ξ, e1, ok, re, hw, tq, tx⟩ := h
  refine ⟨W, ρ, _, Ξ, e1, ok, re, hw, fun W1 d1 v1 l1 ok1 r1 h1 => ⟨W1, ρ, _, Ξ, rfl, ok1, re.mono l1, h1, fun W2 d2 v2 l2 ok2 r2 h2 => ?_, tx.mono l1⟩, tx⟩
  match d1, h2, r1 with
  | .loc k, h2, r1 =>
    obtain ⟨a, ha, rfl⟩ := (Rep.mono l2 _ _ r1).loc_of
    dsimp only at h2
    cases q : W2.mu[k]? with
    | none => rw [q] at h2; exact h2.elim
    | some m =>
      rw [q] at h2
      dsimp only at h2
      cases q2 : lookM m d2 with
      | none => rw [q2] at h2; exact h2.elim
      | some r =>
        rw [q2] at h2
        cases r with
        | none => exact h2.elim
        | some x =>
          obtain ⟨ov, g1, g2, _⟩ := dget_of ok2 ha q r2 q2
          obtain ⟨v, rfl, rx⟩ := g2 x rfl
          exact ⟨a, v, rfl, g1, tq W2 x v (l1.trans l2) ok2 rx h2⟩
theorem de_dget2 (hu : X.A.units + 1 < cLine) (ho : PE X o (tOf T E wo)) (he : PE X e (tOf T E wi)) (hf : PE X f (tOf T E wx)) (m : M2 X o "get" apos e f cpos) : PE X (.Call (.Attribute o "get" apos) [e, f] [] cpos) (tOf T E (wDGet2 wo wi wx)) := (pe_dget2 hu ho he hf m).imp fun σ H Q h => by
  obtain ⟨W, ρ, Φ, Ξ, e1, ok, re, hw, tq, tx⟩ := h
  refine ⟨W, ρ, _, Ξ, e1, ok, re, hw, fun W1 d1 v1 l1 ok1 r1 h1 => ?_, tx⟩
  match d1, h1, r1 with
  | .loc k, h1, r1 =>
    obtain ⟨a, ha, rfl⟩ := r1.loc_of
    dsimp only at h1
    cases q0 : W1.mu[k]? with
    | none => rw [q0] at h1; exact h1.elim
    | some m0 =>
      rw [q0] at h1
      obtain ⟨hd, h1⟩ := h1
      refine ⟨a, rfl, isD_of ok1 ha q0 hd, W1, ρ, _, Ξ, rfl, ok1, re.mono l1, h1, fun W2 d2 v2 l2 ok2 r2 h2 => ⟨W2, ρ, _, Ξ, rfl, ok2, re.mono (l1.trans l2), h2, fun W3 d3 v3 l3 ok3 r3 h3 => ?_, tx.mono (l1.trans l2)⟩, tx.mono l1⟩
      have ha3 := (l2.trans l3).as_get ha
      dsimp only at h3 ⊢
      cases q : W3.mu[k]? with
      | none => rw [q] at h3; exact h3.elim
      | some m =>
        rw [q] at h3
        dsimp only at h3
        cases q2 : lookM m d2 with
        | none => rw [q2] at h3; exact h3.elim
        | some r =>
          rw [q2] at h3
          obtain ⟨ov, g1, g2, g3⟩ := dget_of ok3 ha3 q (Rep.mono l3 _ _ r2) q2
          cases r with
          | none =>
            rw [g3 rfl] at g1
            exact ⟨none, g1, tq W3 d3 v3 ((l1.trans l2).trans l3) ok3 r3 h3⟩
          | some x =>
            obtain ⟨v, rfl, rx⟩ := g2 x rfl
            exact ⟨some v, g1, tq W3 x v ((l1.trans l2).trans l3) ok3 rx h3⟩
theorem sim_din {ng : Bool} {σ : L2.St} {H : Hp} {Q : VK} (h : tOf T E (fun ρ mu Φ Ξ => wi ρ mu (fun y mu1 => wo ρ mu1 (fun o mu2 => match o with
  | .loc k => (match mu2[k]? with | some m => (match lookM m y with | some r => Φ (.bl (ng ^^ r.isSome)) mu2 | none => False) | none => False)
  | _ => False) Ξ) Ξ) σ H Q) : tOf T E wi σ H fun y H1 => tOf T E wo σ H1 fun x H2 => ∃ a o, x = .ref a ∧ DGet H2 a y o ∧ Q (.bl (ng ^^ o.isSome)) H2 := by
  obtain ⟨W, ρ, Φ, Ξ, e1, ok, re, hw, tq, tx⟩ := h
  refine ⟨W, ρ, _, Ξ, e1, ok, re, hw, fun W1 d1 v1 l1 ok1 r1 h1 => ⟨W1, ρ, _, Ξ, rfl, ok1, re.mono l1, h1, fun W2 d2 v2 l2 ok2 r2 h2 => ?_, tx.mono l1⟩, tx⟩
  match d2, h2, r2 with
  | .loc k, h2, r2 =>
    obtain ⟨a, ha, rfl⟩ := r2.loc_of
    dsimp only at h2
    cases q : W2.mu[k]? with
    | none => rw [q] at h2; exact h2.elim
    | some m =>
      rw [q] at h2
      dsimp only at h2
      cases q2 : lookM m d1 with
      | none => rw [q2] at h2; exact h2.elim
      | some r =>
        rw [q2] at h2
        obtain ⟨ov, g1, g2, g3⟩ := dget_of ok2 ha q (Rep.mono l2 _ _ r1) q2
        have e : ov.isSome = r.isSome := by
          cases r with
          | none => rw [g3 rfl]; rfl
          | some x =>
            obtain ⟨v, rfl, _⟩ := g2 x rfl
            rfl
        refine ⟨a, ov, rfl, g1, ?_⟩
        rw [e]
        exact tq W2 _ _ (l1.trans l2) ok2 .bl h2
theorem de_din (hu : X.A.units + 1 < cLine) (hi : PE X i (tOf T E wi)) (ho : PE X o (tOf T E wo)) (hm : behindInMarks .In o = false := by rfl) : PE X (.Compare i [.In] [o] pos) (tOf T E (wDIn wi wo)) := (pe_cmp (pc_din hu hi ho) hm).imp fun σ H Q h => by
  have := sim_din (ng := false) (wi := wi) (wo := wo) (T := T) (E := E) (σ := σ) (H := H) (Q := Q) (by simp only [Bool.false_xor]; exact h)
  simp only [Bool.false_xor] at this
  exact this
theorem de_dnotin (hu : X.A.units + 1 < cLine) (hi : PE X i (tOf T E wi)) (ho : PE X o (tOf T E wo)) (hm : behindInMarks .NotIn o = false := by rfl) : PE X (.Compare i [.NotIn] [o] pos) (tOf T E (wDNotIn wi wo)) := (pe_cmp (pc_dnotin hu hi ho) hm).imp fun σ H Q h => by
  have := sim_din (ng := true) (wi := wi) (wo := wo) (T := T) (E := E) (σ := σ) (H := H) (Q := Q) (by simp only [Bool.true_xor]; exact h)
  simp only [Bool.true_xor] at this
  exact this
theorem de_dnewK : PE X (.Dict [] [] pos) (tOf T E wDNewK) := pe_dnewK.imp fun σ H Q ⟨W, ρ, Φ, Ξ, e1, ok, re, hw, tq, _⟩ p hp => by
  subst e1
  exact tq (W.add p (.dK []) (.dk [])) _ _ (Le.add ok hp) (ok.add hp ⟨[], upd_same, rfl⟩) (Rep.add ok) hw
theorem de_dnewT : PE X (.Dict [] [] pos) (tOf T E wDNewT) := pe_dnewT.imp fun σ H Q ⟨W, ρ, Φ, Ξ, e1, ok, re, hw, tq, _⟩ p hp => by
  subst e1
  exact tq (W.add p (.dT []) (.dt [])) _ _ (Le.add ok hp) (ok.add hp ⟨[], upd_same, rfl⟩) (Rep.add ok) hw
theorem ds_dput (hu : X.A.units + 1 < cLine) (hv : PE X value (tOf T E wv)) (ho : PE X o (tOf T E wo)) (hi : PE X i (tOf T E wi)) (hs : swapsWith value (some (.Subscript o i pos')) pos.line X.env = pure false := by rfl) :
    PS X (.Assign [.Subscript o i pos'] value pos) (tOfS T E (wDPut wv wo wi)) := (ps_dput hu ho hi hv hs).imp fun D σ H h => by
  obtain ⟨W, ρ, Δ, Ξ, e1, ok, re, hw, ts, tx⟩ := h
  refine ⟨W, ρ, _, Ξ, e1, ok, re, hw, fun W1 d v l1 ok1 r1 h1 => ⟨W1, ρ, _, Ξ, rfl, ok1, re.mono l1, h1, fun W2 o vo l2 ok2 r2 h2 => ⟨W2, ρ, _, Ξ, rfl, ok2, re.mono (l1.trans l2), h2, fun W3 y vy l3 ok3 r3 h3 => ?_, tx.mono (l1.trans l2)⟩, tx.mono l1⟩, tx⟩
  match o, h3, r2 with
  | .loc k, h3, r2 =>
    obtain ⟨p, g0, rfl⟩ := (Rep.mono l3 _ _ r2).loc_of
    have rd := Rep.mono (l2.trans l3) _ _ r1
    dsimp only at h3
    cases q2 : W3.mu[k]? with
    | none => rw [q2] at h3; exact h3.elim
    | some m =>
      rw [q2] at h3
      dsimp only at h3
      have z := ok3.ob k p m g0 q2
      cases q3 : putM m y d with
      | none => rw [q3] at h3; exact h3.elim
      | some m' =>
        rw [q3] at h3
        cases m with
        | dk kvs =>
          obtain ⟨vs, e2, e3⟩ := z
          have q3 : (if kvs.length < 100000 then (keyD y).map fun k => MO.dk (putD kvs k d) else none) = some m' := q3
          by_cases hl : kvs.length < 100000
          · rw [if_pos hl] at q3
            obtain ⟨key, e4, rfl⟩ := Option.map_eq_some_iff.mp q3
            rw [keyD_rep e4 r3]
            refine ⟨p, _, rfl, .inl ⟨vs, key, e2, rfl, by rw [e3.length]; exact Nat.lt_of_lt_of_le hl (by decide), rfl⟩, ?_⟩
            have lp := Le.put (o := .dK (putK vs key v)) (m := .dk (putD kvs key d)) ok3 g0 q2 (by intro z; cases z)
            exact ts.nx (W3.put k p (.dK (putK vs key v)) (.dk (putD kvs key d))) σ ρ (((l1.trans l2).trans l3).trans lp) (ok3.put g0 q2 (by intro z; cases z) (fun ps z => by rw [e2] at z; cases z) (fun φ z => by rw [e2] at z; cases z) ⟨_, upd_same, RepF.mono lp (e3.put rd)⟩) (re.mono (((l1.trans l2).trans l3).trans lp)) h3
          · rw [if_neg hl] at q3
            cases q3
        | dt kvs =>
          obtain ⟨vs, e2, e3⟩ := z
          have q3 : (if kvs.length < 100000 then (tkD y).map fun k => MO.dt (putD kvs k d) else none) = some m' := q3
          by_cases hl : kvs.length < 100000
          · rw [if_pos hl] at q3
            obtain ⟨key, e4, rfl⟩ := Option.map_eq_some_iff.mp q3
            obtain ⟨b, rfl, g1⟩ := tkD_rep e4 r3
            refine ⟨p, _, rfl, .inr ⟨vs, key, b, e2, rfl, g1, by rw [e3.length]; exact Nat.lt_of_lt_of_le hl (by decide), rfl⟩, ?_⟩
            have lp := Le.put (o := .dT (putK vs key v)) (m := .dt (putD kvs key d)) ok3 g0 q2 (by intro z; cases z)
            exact ts.nx (W3.put k p (.dT (putK vs key v)) (.dt (putD kvs key d))) σ ρ (((l1.trans l2).trans l3).trans lp) (ok3.put g0 q2 (by intro z; cases z) (fun ps z => by rw [e2] at z; cases z) (fun φ z => by rw [e2] at z; cases z) ⟨_, upd_same, RepF.mono lp (e3.put rd)⟩) (re.mono (((l1.trans l2).trans l3).trans lp)) h3
          · rw [if_neg hl] at q3
            cases q3
        | gone => cases q3
        | lst xs => cases q3
        | ins C fs => cases q3
        | lk od vs kvs => cases q3
        | lt od vs kvs => cases q3
end
end DL
set_option maxHeartbeats 4000000
/-! DY2: for over a dict (it is locked meanwhile); dicts written with their pairs. -/
namespace DL
open PySem PySem.Spec PyProof.Rows L2
def wForGoL (k : Nat) (od : Obj) (vs : List (Key × V)) (kvs : List (Key × D)) (dg : DG) (b : DWS) : List D → EnvD → MS → DEnds → Prop
  | [], ρ, mu, Δ => mu[k]? = some (.lk od vs kvs) ∧ Δ.nx ρ (mu.set k (.dk kvs))
  | x :: xs, ρ, mu, Δ => mu[k]? = some (.lk od vs kvs) ∧ dg x ρ fun ρ1 => b ρ1 mu ⟨fun ρ2 mu2 => wForGoL k od vs kvs dg b xs ρ2 mu2 Δ, fun d mu2 => mu2[k]? = some (.lk od vs kvs) ∧ Δ.rt d (mu2.set k (.dk kvs)),
      fun ρ2 mu2 => mu2[k]? = some (.lk od vs kvs) ∧ Δ.nx ρ2 (mu2.set k (.dk kvs)), fun ρ2 mu2 => wForGoL k od vs kvs dg b xs ρ2 mu2 Δ⟩ X0
def wForD (i : Nat) (dg : DG) (b : DWS) : DWS := fun ρ mu Δ _ => match gt ρ i with
  | some (.loc k) => (match mu[k]? with
    | some (.dk kvs) => ∀ od vs, wForGoL k od vs kvs dg b (kvs.map fun kv => dKey kv.1) ρ (mu.set k (.lk od vs kvs)) Δ
    | _ => False)
  | _ => False
section
variable {X : Cx} {T : List (Addr × Str)} {iter tg : Expr} {body : List Stmt} {pos : Pos} {g : TG} {dg : DG} {b : DWS} {i : Nat}
theorem ds_forD (hp : PassesOwn (model X.prog X.w) X.A X.env X.xe) (hc : X.calm = true) (he : PE X iter (tOf T E0 (wVar i))) (hg : PG X tg g) (sg : SimG T g dg) (hb : PSs X body (tOfS T E0 b))
    (hs : ∀ x, foldedSetIterable iter X.env x = pure x := by intro _; rfl) : PS X (.For tg iter body [] pos) (tOfS T E0 (wForD i dg b)) := (ps_lock (ps_for hp hc (pi_keys he) hg hb hs)).imp fun D σ H h => by
  obtain ⟨W, ρ, Δ, Ξ, rfl, ok, re, hw, ts, tx⟩ := h
  unfold wForD at hw
  cases q : gt ρ i with
  | none => rw [q] at hw; exact hw.elim
  | some d =>
    rw [q] at hw
    cases d with
    | loc k =>
      dsimp only at hw
      cases q2 : W.mu[k]? with
      | none => rw [q2] at hw; exact hw.elim
      | some m =>
        rw [q2] at hw
        cases m with
        | dk kvs =>
          dsimp only at hw
          obtain ⟨v0, hv0, rv0⟩ := re.2 i _ q
          obtain ⟨a, ha, rfl⟩ := rv0.loc_of
          obtain ⟨vs, e2, e3⟩ := ok.ob k a _ ha q2
          refine ⟨a, .dK vs, e2, True.intro, fun od => ?_⟩
          have n0 : MO.dk kvs ≠ .gone := by intro z; cases z
          let W1 := W.put k a (.frz od (.dK vs)) (.lk od vs kvs)
          have l1 : Le W W1 := Le.put ok ha q2 n0
          have ok1 : WOk T W1 := ok.put ha q2 n0 (fun ps z => by rw [e2] at z; cases z) (fun φ z => by rw [e2] at z; cases z) ⟨upd_same, RepF.mono l1 e3⟩
          have hmu1 : W1.mu[k]? = some (.lk od vs kvs) := List.getElem?_set_self (List.getElem?_eq_some_iff.mp q2).1
          have ha1 : W1.as[k]? = some a := ha
          have hw := hw od vs
          -- back from the lock
          have back : ∀ (W2 : Wd), Le W1 W2 → WOk T W2 → W2.mu[k]? = some (.lk od vs kvs) → W2.H a = some (.frz od (.dK vs)) ∧ Le W (W2.put k a (.dK vs) (.dk kvs)) ∧ Le W2 (W2.put k a (.dK vs) (.dk kvs)) ∧ WOk T (W2.put k a (.dK vs) (.dk kvs)) := fun W2 l2 ok2 hm => by
            have ha2 := l2.as_get ha1
            obtain ⟨g1, g2⟩ := ok2.ob k a _ ha2 hm
            have n2 : MO.lk od vs kvs ≠ .gone := by intro z; cases z
            have lp : Le W2 (W2.put k a (.dK vs) (.dk kvs)) := Le.put ok2 ha2 hm n2
            exact ⟨g1, (l1.trans l2).trans lp, lp, ok2.put ha2 hm n2 (fun ps z => by rw [g1] at z; cases z) (fun φ z => by rw [g1] at z; cases z) ⟨vs, upd_same, RepF.mono lp g2⟩⟩
          refine ⟨W1, ρ, fun d mu' => d = .loc k ∧ mu' = W1.mu, X0, rfl, ok1, re.mono l1, ?_, fun W2 d v l2 ok2 r2 h2 => ?_, TrX.none⟩
          · show wVar i ρ W1.mu _ _
            unfold wVar
            rw [q]
            exact ⟨rfl, rfl⟩
          · obtain ⟨rfl, hm2⟩ := h2
            obtain ⟨a', ha', rfl⟩ := r2.loc_of
            have ha2 := l2.as_get ha1
            rw [ha2] at ha'
            cases ha'
            have hmu2 : W2.mu[k]? = some (.lk od vs kvs) := by rw [hm2]; exact hmu1
            obtain ⟨g1, g2⟩ := ok2.ob k a _ ha2 hmu2
            refine ⟨a, od, rfl, .inl ⟨vs, g1, ?_⟩⟩
            have hlen := e3.length
            refine ⟨fun j m σ' H' => m = kvs.length - j ∧ j ≤ kvs.length ∧ ∃ (W3 : Wd) (ρ3 : EnvD), W3.H = H' ∧ Le W2 W3 ∧ WOk T W3 ∧ RepE W3 σ' ρ3 ∧ wForGoL k od vs kvs dg b ((kvs.map fun kv => dKey kv.1).drop j) ρ3 W3.mu Δ, ⟨kvs.length, by simp, Nat.zero_le _, W2, ρ, rfl, .refl W2, ok2, re.mono (l1.trans l2), by rw [hm2]; exact hw⟩, ?_⟩
            rintro j m σ3 H3 ⟨rfl, hj, W3, ρ3, rfl, l3, ok3, re3, h3⟩
            by_cases hlt : j < kvs.length
            · have hlt2 : j < (kvs.map fun kv => dKey kv.1).length := by rw [List.length_map]; exact hlt
              have ed : (kvs.map fun kv => dKey kv.1).drop j = (kvs.map fun kv => dKey kv.1)[j] :: (kvs.map fun kv => dKey kv.1).drop (j + 1) := List.drop_eq_getElem_cons hlt2
              rw [ed] at h3
              obtain ⟨hm3, h3⟩ := h3
              obtain ⟨f1, f2⟩ := ok3.ob k a _ (l3.as_get ha2) hm3
              refine .inr ⟨⟨f1, by rw [hlen]; exact hlt⟩, fun σ' H' => ∃ (W4 : Wd) (ρ4 : EnvD), W4.H = H' ∧ Le W2 W4 ∧ WOk T W4 ∧ RepE W4 σ' ρ4 ∧ wForGoL k od vs kvs dg b ((kvs.map fun kv => dKey kv.1).drop (j + 1)) ρ4 W4.mu Δ, fun σ' H' h' => ⟨kvs.length - (j + 1), by omega, rfl, hlt, h'⟩, fun x H' y => ?_⟩
              obtain ⟨rfl, key, v, hk, rfl⟩ := y
              obtain ⟨u, hu, _⟩ := RepF.at (i := j) (p := kvs[j]) e3 (List.getElem?_eq_getElem hlt)
              rw [hu] at hk
              cases hk
              have ei : (kvs.map fun kv => dKey kv.1)[j] = dKey kvs[j].1 := List.getElem_map _
              rw [ei] at h3
              refine sg W3 (dKey kvs[j].1) _ σ3 ρ3 _ _ ok3 (dKey_rep rfl) re3 h3 fun σ4 ρ4 re4 h4 => ?_
              refine ⟨W3, ρ4, _, X0, rfl, ok3, re4, h4, ?_, TrX.none⟩
              refine ⟨fun W5 σ5 ρ5 l5 ok5 re5 h5 => ⟨W5, ρ5, rfl, l3.trans l5, ok5, re5, h5⟩, fun W5 d5 v5 l5 ok5 r5 h5 => ?_, fun W5 σ5 ρ5 l5 ok5 re5 h5 => ?_, fun W5 σ5 ρ5 l5 ok5 re5 h5 => ⟨W5, ρ5, rfl, l3.trans l5, ok5, re5, h5⟩⟩
              · obtain ⟨b1, b2, b3, b4⟩ := back W5 ((l2.trans l3).trans l5) ok5 h5.1
                exact ⟨b1, ts.rt _ d5 v5 b2 b4 (Rep.mono b3 _ _ r5) h5.2⟩
              · obtain ⟨b1, b2, b3, b4⟩ := back W5 ((l2.trans l3).trans l5) ok5 h5.1
                exact ⟨b1, ts.nx _ σ5 ρ5 b2 b4 (re5.mono b3) h5.2⟩
            · have e : j = kvs.length := by omega
              subst e
              rw [List.drop_of_length_le (by rw [List.length_map]; exact Nat.le_refl _)] at h3
              obtain ⟨hm3, h3⟩ := h3
              obtain ⟨f1, f2⟩ := ok3.ob k a _ (l3.as_get ha2) hm3
              obtain ⟨b1, b2, b3, b4⟩ := back W3 (l2.trans l3) ok3 hm3
              exact .inl ⟨⟨f1, by rw [hlen]; exact Nat.le_refl _⟩, b1, ts.nx _ σ3 ρ3 b2 b4 (re3.mono b3) h3⟩
        | _ => exact hw.elim
    | _ => exact hw.elim
/-! ### {k: v, ..} -/
abbrev DWP := EnvD → MS → (List (Key × D) → MS → Prop) → XD → Prop
def wPNil : DWP := fun _ mu Φ _ => Φ [] mu
def wPCons (wk wv : DW) (r : DWP) : DWP := fun ρ mu Φ Ξ => wk ρ mu (fun x mu1 => match keyD x with
  | some key => wv ρ mu1 (fun y mu2 => r ρ mu2 (fun ps mu3 => Φ ((key, y) :: ps) mu3) Ξ) Ξ
  | none => False) Ξ
/-- the readings of a display's pairs -/
inductive PrsE (X : Cx) (T : List (Addr × Str)) (E : XK) (pos : Pos) : List (Option Expr) → List Expr → List (TE × TE) → DWP → Prop where
  | nil : PrsE X T E pos [] [] [] wPNil
  | cons {k v : Expr} {ks : List (Option Expr)} {vs : List Expr} {trs : List (TE × TE)} {wk wv : DW} {r : DWP} (hk : PE X k (tOf T E wk)) (hv : PE X v (tOf T E wv)) (hr : PrsE X T E pos ks vs trs r) : PrsE X T E pos (some k :: ks) (v :: vs) ((tOf T E wk, tOf T E wv) :: trs) (wPCons wk wv r)
theorem PrsE.pps {E : XK} {ks : List (Option Expr)} {vs : List Expr} {trs : List (TE × TE)} {r : DWP} (h : PrsE X T E pos ks vs trs r) : PPs X pos ks vs trs := by
  induction h with
  | nil => exact pps_nil
  | cons hk hv _ ih => exact pps_cons hk hv ih
theorem PrsE.len {E : XK} {ks : List (Option Expr)} {vs : List Expr} {trs : List (TE × TE)} {r : DWP} (h : PrsE X T E pos ks vs trs r) : ks.length = vs.length ∧ ks.all (·.isSome) = true := by
  induction h with
  | nil => exact ⟨rfl, rfl⟩
  | cons hk hv _ ih => exact ⟨by rw [List.length_cons, List.length_cons, ih.1], by rw [List.all_cons, ih.2]; rfl⟩
theorem PrsE.sim {E : XK} {ks : List (Option Expr)} {es : List Expr} {trs : List (TE × TE)} {r : DWP} (h : PrsE X T E pos ks es trs r) : ∀ {W : Wd} {ρ : EnvD} {σ : L2.St} {Φ : List (Key × D) → MS → Prop} {Ξ : XD} {Q : List (V × V) → Hp → Prop}, WOk T W → RepE W σ ρ → r ρ W.mu Φ Ξ → TrX T W Ξ E →
    (∀ (W' : Wd) (kds : List (Key × D)) (kvs : List (Key × V)), Le W W' → WOk T W' → RepF W' kds kvs → kds.length = ks.length → Φ kds W'.mu → Q (kvs.map fun kv => (kV kv.1, kv.2)) W'.H) → tPairs trs σ W.H Q := by
  induction h with
  | nil => exact fun {W ρ σ Φ Ξ Q} ok re hw tx tq => tq W [] [] (.refl W) ok rfl rfl hw
  | cons hk hv _ ih =>
    intro W ρ σ Φ Ξ Q ok re hw tx tq
    refine ⟨W, ρ, _, Ξ, rfl, ok, re, hw, fun W1 x vx l1 ok1 r1 h1 => ?_, tx⟩
    dsimp only at h1
    cases q : keyD x with
    | none => rw [q] at h1; exact h1.elim
    | some key =>
      rw [q] at h1
      have ek := keyD_rep q r1
      subst ek
      refine ⟨W1, ρ, _, Ξ, rfl, ok1, re.mono l1, h1, fun W2 y vy l2 ok2 r2 h2 => ?_, tx.mono l1⟩
      refine ih ok2 (re.mono (l1.trans l2)) h2 (tx.mono (l1.trans l2)) fun W3 kds kvs l3 ok3 rf hl h3 => ?_
      exact tq W3 ((key, y) :: kds) ((key, vy) :: kvs) ((l1.trans l2).trans l3) ok3 ⟨vy, kvs, rfl, Rep.mono l3 _ _ r2, rf⟩ (by rw [List.length_cons, List.length_cons, hl]) h3
def mergeD (kvs more : List (Key × D)) : List (Key × D) := more.foldl (fun acc kv => putD acc kv.1 kv.2) kvs
theorem RepF.merge {W : Wd} : ∀ {more : List (Key × D)} {mv : List (Key × V)} {kvs : List (Key × D)} {vs : List (Key × V)}, RepF W more mv → RepF W kvs vs → RepF W (mergeD kvs more) (mergeK vs mv)
  | [], _, _, _, h, g => by rw [show _ = [] from h]; exact g
  | p :: r, _, _, _, ⟨v, s, e, h1, h2⟩, g => by
    rw [e]
    have := RepF.merge h2 (g.put (k := p.1) h1)
    exact this
def wDisp (r : DWP) : DW := fun ρ mu Φ Ξ => r ρ (mu ++ [.dk []]) (fun ps mu1 => mu1[mu.length]? = some (.dk []) ∧ Φ (.loc mu.length) (mu1.set mu.length (.dk (mergeD [] ps)))) Ξ
theorem de_disp {E : XK} {ks : List (Option Expr)} {es : List Expr} {trs : List (TE × TE)} {r : DWP} (h : PrsE X T E pos ks es trs r) (h0 : ks ≠ []) (h15 : ks.length ≤ 15) : PE X (.Dict ks es pos) (tOf T E (wDisp r)) :=
  (pe_disp h.pps h.len.2 h.len.1 h0 h15).imp fun σ H Q ⟨W, ρ, Φ, Ξ, e1, ok, re, hw, tq, tx⟩ p hp => by
  subst e1
  have l1 : Le W (W.add p (.dK []) (.dk [])) := Le.add ok hp
  have ok1 : WOk T (W.add p (.dK []) (.dk [])) := ok.add hp ⟨[], upd_same, rfl⟩
  have ha1 : (W.add p (.dK []) (.dk [])).as[W.mu.length]? = some p := by
    show (W.as ++ [p])[W.mu.length]? = some p
    rw [← ok.len, List.getElem?_append_right (Nat.le_refl _), Nat.sub_self]
    rfl
  refine h.sim (W := W.add p (.dK []) (.dk [])) ok1 (re.mono l1) hw (tx.mono l1) fun W2 kds kvs l2 ok2 rf hl h2 => ?_
  obtain ⟨hm, h2⟩ := h2
  have ha2 := l2.as_get ha1
  obtain ⟨vs, g1, g2⟩ := ok2.ob _ p _ ha2 hm
  have : vs = [] := g2
  subst this
  refine ⟨g1, kvs, rfl, by rw [rf.length, hl]; exact h15, ?_⟩
  have n2 : MO.dk [] ≠ .gone := by intro z; cases z
  have lp : Le W2 (W2.put W.mu.length p (.dK (mergeK [] kvs)) (.dk (mergeD [] kds))) := Le.put ok2 ha2 hm n2
  refine tq (W2.put W.mu.length p (.dK (mergeK [] kvs)) (.dk (mergeD [] kds))) (.loc W.mu.length) _ ((l1.trans l2).trans lp) (ok2.put ha2 hm n2 (fun ps z => by rw [g1] at z; cases z) (fun φ z => by rw [g1] at z; cases z) ⟨_, upd_same, RepF.mono lp (rf.merge g2)⟩) (Rep.loc ?_) h2
  exact ha2
end
end DL
set_option maxHeartbeats 4000000
/-! DY3: tests of what is in a dict; room. -/
namespace DL
open PySem PySem.Spec PyProof.Rows L2
theorem u1 {k : Nat} {A : Around} (hr : Room k A) : A.units + 1 < cLine := by have := hr.un; omega
section
variable {X : Cx} {T : List (Addr × Str)} {E : XK} {o i : Expr} {wo wi : DW} {pos : Pos}
theorem dt_din (hu : X.A.units + 1 < cLine) (hi : PE X i (tOf T E wi)) (ho : PE X o (tOf T E wo)) (hm : behindInMarks .In o = false := by rfl) : PT X (.Compare i [.In] [o] pos) (tOfT T E (wTest (wDIn wi wo))) :=
  (pt_cmp (pc_din hu hi ho) hm).imp fun _ _ _ h => tOf_imp (fun σ H Q h => by
    have := sim_din (ng := false) (wi := wi) (wo := wo) (T := T) (E := E) (σ := σ) (H := H) (Q := Q) (by simp only [Bool.false_xor]; exact h)
    simp only [Bool.false_xor] at this
    exact this) h
theorem dt_dnotin (hu : X.A.units + 1 < cLine) (hi : PE X i (tOf T E wi)) (ho : PE X o (tOf T E wo)) (hm : behindInMarks .NotIn o = false := by rfl) : PT X (.Compare i [.NotIn] [o] pos) (tOfT T E (wTest (wDNotIn wi wo))) :=
  (pt_cmp (pc_dnotin hu hi ho) hm).imp fun _ _ _ h => tOf_imp (fun σ H Q h => by
    have := sim_din (ng := true) (wi := wi) (wo := wo) (T := T) (E := E) (σ := σ) (H := H) (Q := Q) (by simp only [Bool.true_xor]; exact h)
    simp only [Bool.true_xor] at this
    exact this) h
end
end DL
/-! SM1: plain mathematics of plans: chances by levels and counts. -/
namespace DL
/-- q is a whole multiple of 1/M -/
def IsM (M : Nat) (q : Rat) : Prop := ∃ z : Int, q * (M : Rat) = (z : Rat)
theorem isM_mul {M N : Nat} {p q : Rat} (hp : IsM M p) (hq : IsM N q) : IsM (M * N) (p * q) := by
  obtain ⟨a, ha⟩ := hp
  obtain ⟨b, hb⟩ := hq
  refine ⟨a * b, ?_⟩
  rw [Rat.natCast_mul, Rat.intCast_mul, ← ha, ← hb]
  grind
theorem isM_add {M : Nat} {p q : Rat} (hp : IsM M p) (hq : IsM M q) : IsM M (p + q) := by
  obtain ⟨a, ha⟩ := hp
  obtain ⟨b, hb⟩ := hq
  refine ⟨a + b, ?_⟩
  rw [Rat.intCast_add, ← ha, ← hb]
  grind
theorem isM_sub {M : Nat} {p q : Rat} (hp : IsM M p) (hq : IsM M q) : IsM M (p - q) := by
  obtain ⟨a, ha⟩ := hp
  obtain ⟨b, hb⟩ := hq
  refine ⟨a - b, ?_⟩
  rw [Rat.intCast_sub, ← ha, ← hb]
  grind
theorem nc_ne {M : Nat} (hM : 0 < M) : (M : Rat) ≠ 0 := by
  intro e
  have := Rat.natCast_inj.mp (show (M : Rat) = ((0 : Nat) : Rat) from e)
  omega
theorem isM_den (q : Rat) : IsM q.den q := ⟨q.num, by
  have h : q = (q.num : Rat) / (q.den : Rat) := by rw [← Rat.mkRat_eq_div, Rat.mkRat_self]
  have h0 : (q.den : Rat) ≠ 0 := nc_ne (Nat.pos_of_ne_zero q.den_nz)
  have := Rat.div_mul_cancel (a := (q.num : Rat)) h0
  rw [← h] at this
  exact this⟩
theorem isM_dvd {M N : Nat} {q : Rat} (h : IsM M q) (d : M ∣ N) : IsM N q := by
  obtain ⟨k, rfl⟩ := d
  obtain ⟨a, ha⟩ := h
  refine ⟨a * k, ?_⟩
  rw [Rat.natCast_mul, Rat.intCast_mul, ← ha]
  have : ((k : Int) : Rat) = (k : Rat) := rfl
  grind
theorem isM_zero {M : Nat} : IsM M 0 := ⟨0, by rw [Rat.zero_mul]; rfl⟩
theorem isM_one {M : Nat} : IsM M 1 := ⟨M, by rw [Rat.one_mul]; rfl⟩
theorem isM_eq {M : Nat} {q : Rat} (hM : 0 < M) (h : IsM M q) : ∃ z : Int, q = mkRat z M ∧ q * (M : Rat) = (z : Rat) := by
  obtain ⟨z, hz⟩ := h
  refine ⟨z, ?_, hz⟩
  rw [Rat.mkRat_eq_div, ← hz]
  rw [Rat.mul_div_cancel (nc_ne hM)]
/-! ### sums -/
def sumR : List Rat → Rat
  | [] => 0
  | q :: r => q + sumR r
theorem sumR_append (a b : List Rat) : sumR (a ++ b) = sumR a + sumR b := by
  induction a with
  | nil => show sumR b = 0 + sumR b; rw [Rat.zero_add]
  | cons q r ih => show q + sumR (r ++ b) = q + sumR r + sumR b; rw [ih, Rat.add_assoc]
theorem sumR_nonneg {l : List Rat} (h : ∀ q ∈ l, 0 ≤ q) : 0 ≤ sumR l := by
  induction l with
  | nil => exact Rat.le_refl
  | cons q r ih => exact Rat.add_nonneg (h q List.mem_cons_self) (ih fun x hx => h x (List.mem_cons_of_mem _ hx))
theorem le_sumR {l : List Rat} (h : ∀ q ∈ l, 0 ≤ q) {q : Rat} (hq : q ∈ l) : q ≤ sumR l := by
  induction l with
  | nil => cases hq
  | cons x r ih =>
    have hx := h x List.mem_cons_self
    have hr := sumR_nonneg fun y hy => h y (List.mem_cons_of_mem _ hy)
    show q ≤ x + sumR r
    rcases List.mem_cons.mp hq with e | e
    · subst e
      grind
    · have := ih (fun y hy => h y (List.mem_cons_of_mem _ hy)) e
      grind
/-! ### a count -/
/-- the chances behind one count more: from level i on, a: what comes up to level i -/
def led (ch : Nat → Rat) : Nat → Rat → List Rat → List Rat
  | _, a, [] => [a]
  | i, a, q :: r => (a + (q - q * ch i)) :: led ch (i + 1) (q * ch i) r
theorem led_length (ch : Nat → Rat) : ∀ (i : Nat) (a : Rat) (qs : List Rat), (led ch i a qs).length = qs.length + 1
  | _, _, [] => rfl
  | i, a, q :: r => by
    unfold led
    rw [List.length_cons, led_length ch, List.length_cons]
theorem led_sum (ch : Nat → Rat) : ∀ (i : Nat) (a : Rat) (qs : List Rat), sumR (led ch i a qs) = a + sumR qs
  | _, a, [] => rfl
  | i, a, q :: r => by
    show (a + (q - q * ch i)) + sumR (led ch (i + 1) (q * ch i) r) = a + (q + sumR r)
    rw [led_sum ch (i + 1)]
    grind
/-- level by level -/
theorem led_eq (ch : Nat → Rat) : ∀ (i : Nat) (a : Rat) (qs : List Rat), led ch i a qs = (List.range (qs.length + 1)).map fun j => (if j = 0 then a else qs.getD (j - 1) 0 * ch (i + j - 1)) + (qs.getD j 0 - qs.getD j 0 * ch (i + j))
  | i, a, [] => by
    show [a] = [(if (0 : Nat) = 0 then a else _) + (([] : List Rat).getD 0 0 - ([] : List Rat).getD 0 0 * ch (i + 0))]
    rw [if_pos rfl]
    show [a] = [a + (0 - 0 * ch (i + 0))]
    rw [Rat.zero_mul, Rat.sub_self, Rat.add_zero]
  | i, a, q :: r => by
    rw [List.length_cons, List.range_succ_eq_map, List.map_cons, List.map_map]
    show (a + (q - q * ch i)) :: led ch (i + 1) (q * ch i) r = _
    rw [led_eq ch (i + 1) (q * ch i) r]
    congr 1
    refine List.map_congr_left fun j hj => ?_
    show _ = (if j + 1 = 0 then a else (q :: r).getD (j + 1 - 1) 0 * ch (i + (j + 1) - 1)) + ((q :: r).getD (j + 1) 0 - (q :: r).getD (j + 1) 0 * ch (i + (j + 1)))
    rw [if_neg (Nat.succ_ne_zero j), Nat.add_sub_cancel, List.getD_cons_succ]
    have e1 : i + 1 + j = i + (j + 1) := by omega
    have e2 : i + (j + 1) - 1 = i + j := by omega
    rw [e1, e2]
    cases j with
    | zero => rw [if_pos rfl, List.getD_cons_zero]; rfl
    | succ j =>
      rw [if_neg (Nat.succ_ne_zero j), List.getD_cons_succ, Nat.add_sub_cancel]
      first
      | done
      | (have e3 : i + (j + 1 + 1) - 1 = i + (j + 1) := by omega
         rw [e3])
def chs (ch : Nat → Rat) : Nat → List Rat
  | 0 => [1]
  | n + 1 => led ch 0 0 (chs ch n)
theorem chs_length (ch : Nat → Rat) : ∀ n, (chs ch n).length = n + 1
  | 0 => rfl
  | n + 1 => by
    unfold chs
    rw [led_length, chs_length ch n]
theorem chs_sum (ch : Nat → Rat) : ∀ n, sumR (chs ch n) = 1
  | 0 => by show (1 : Rat) + 0 = 1; rw [Rat.add_zero]
  | n + 1 => by
    unfold chs
    rw [led_sum, chs_sum ch n, Rat.zero_add]
/-- a chance -/
def Ch (q : Rat) : Prop := 0 < q ∧ q ≤ 1
theorem led_nonneg {ch : Nat → Rat} (hc : ∀ i, Ch (ch i)) : ∀ (i : Nat) (a : Rat) (qs : List Rat), 0 ≤ a → (∀ q ∈ qs, 0 ≤ q) → ∀ q ∈ led ch i a qs, 0 ≤ q
  | i, a, [], ha, _, q, hq => by
    have : q = a := by simpa [led] using hq
    rw [this]
    exact ha
  | i, a, x :: r, ha, h, q, hq => by
    have hx := h x List.mem_cons_self
    obtain ⟨c0, c1⟩ := hc i
    have h1 : 0 ≤ x * ch i := Rat.mul_nonneg hx (Rat.le_of_lt c0)
    have h2 : x * ch i ≤ x * 1 := Rat.mul_le_mul_of_nonneg_left c1 hx
    rw [Rat.mul_one] at h2
    rcases List.mem_cons.mp (show q ∈ (a + (x - x * ch i)) :: led ch (i + 1) (x * ch i) r from hq) with e | e
    · rw [e]
      grind
    · exact led_nonneg hc (i + 1) _ r h1 (fun y hy => h y (List.mem_cons_of_mem _ hy)) q e
theorem chs_nonneg {ch : Nat → Rat} (hc : ∀ i, Ch (ch i)) : ∀ n, ∀ q ∈ chs ch n, 0 ≤ q
  | 0, q, h => by
    have : q = 1 := by simpa [chs] using h
    rw [this]
    decide
  | n + 1, q, h => led_nonneg hc 0 0 _ Rat.le_refl (chs_nonneg hc n) q h
theorem chs_le {ch : Nat → Rat} (hc : ∀ i, Ch (ch i)) (n : Nat) {q : Rat} (h : q ∈ chs ch n) : q ≤ 1 := by
  rw [← chs_sum ch n]
  exact le_sumR (chs_nonneg hc n) h
theorem led_isM {ch : Nat → Rat} {M B : Nat} {k : Nat} (hb : ∀ i, i < k → IsM B (ch i)) : ∀ (i : Nat) (a : Rat) (qs : List Rat), i + qs.length ≤ k → IsM (M * B) a → (∀ q ∈ qs, IsM M q) → ∀ q ∈ led ch i a qs, IsM (M * B) q
  | i, a, [], _, ha, _, q, hq => by
    have : q = a := by simpa [led] using hq
    rw [this]
    exact ha
  | i, a, x :: r, hl, ha, h, q, hq => by
    rw [List.length_cons] at hl
    have hx := h x List.mem_cons_self
    have h1 : IsM (M * B) (x * ch i) := isM_mul hx (hb i (by omega))
    rcases List.mem_cons.mp (show q ∈ (a + (x - x * ch i)) :: led ch (i + 1) (x * ch i) r from hq) with e | e
    · rw [e]
      exact isM_add ha (isM_sub (isM_dvd hx (Nat.dvd_mul_right M B)) h1)
    · exact led_isM hb (i + 1) _ r (by omega) h1 (fun y hy => h y (List.mem_cons_of_mem _ hy)) q e
theorem chs_isM {ch : Nat → Rat} {B k : Nat} (hb : ∀ i, i < k → IsM B (ch i)) : ∀ n, n ≤ k → ∀ q ∈ chs ch n, IsM (B ^ n) q
  | 0, _, q, h => by
    have : q = 1 := by simpa [chs] using h
    rw [this]
    exact isM_one
  | n + 1, hn, q, h => by
    rw [Nat.pow_succ]
    exact led_isM hb 0 0 _ (by rw [chs_length]; omega) isM_zero (chs_isM hb n (by omega)) q h
/-- what can be -/
def CanB (ch : Nat → Rat) (n j : Nat) : Prop := j ≤ n ∧ (j = n ∨ ∃ i, i ≤ j ∧ ch i < 1)
theorem chs_get (ch : Nat → Rat) (n j : Nat) : (chs ch (n + 1)).getD j 0 = (if j = 0 then 0 else (chs ch n).getD (j - 1) 0 * ch (j - 1)) + ((chs ch n).getD j 0 - (chs ch n).getD j 0 * ch j) := by
  rw [show chs ch (n + 1) = led ch 0 0 (chs ch n) from rfl, led_eq, chs_length]
  by_cases h : j < n + 1 + 1
  · rw [List.getD_eq_getElem?_getD, List.getElem?_map, List.getElem?_range h]
    show (if j = 0 then 0 else (chs ch n).getD (j - 1) 0 * ch (0 + j - 1)) + ((chs ch n).getD j 0 - (chs ch n).getD j 0 * ch (0 + j)) = _
    rw [Nat.zero_add]
  · have e1 : (chs ch n).getD j 0 = 0 := by
      rw [List.getD_eq_getElem?_getD, List.getElem?_eq_none (by rw [chs_length]; omega)]
      rfl
    have e2 : (chs ch n).getD (j - 1) 0 = 0 := by
      rw [List.getD_eq_getElem?_getD, List.getElem?_eq_none (by rw [chs_length]; omega)]
      rfl
    rw [List.getD_eq_getElem?_getD, List.getElem?_eq_none (by simp; omega), e1, e2, if_neg (by omega)]
    show (0 : Rat) = _
    rw [Rat.zero_mul, Rat.zero_mul]
    grind
theorem getD_nonneg {ch : Nat → Rat} (hc : ∀ i, Ch (ch i)) (n j : Nat) : 0 ≤ (chs ch n).getD j 0 := by
  rw [List.getD_eq_getElem?_getD]
  cases e : (chs ch n)[j]? with
  | none => exact Rat.le_refl
  | some q => exact chs_nonneg hc n q (List.mem_of_getElem? e)
theorem can_pos {ch : Nat → Rat} (hc : ∀ i, Ch (ch i)) : ∀ n j, 0 < (chs ch n).getD j 0 ↔ CanB ch n j
  | 0, j => by
    cases j with
    | zero => exact ⟨fun _ => ⟨Nat.le_refl _, .inl rfl⟩, fun _ => by show (0 : Rat) < 1; decide⟩
    | succ j =>
      refine ⟨fun h => ?_, fun h => ?_⟩
      · have e : (chs ch 0).getD (j + 1) 0 = 0 := rfl
        rw [e] at h
        exact absurd h Rat.lt_irrefl
      · have := h.1
        omega
  | n + 1, j => by
    rw [chs_get]
    have g0 := getD_nonneg hc n j
    have g1 := getD_nonneg hc n (j - 1)
    have i0 := can_pos hc n j
    have i1 := can_pos hc n (j - 1)
    have c0 := hc j
    have c1 := hc (j - 1)
    have up : 0 ≤ (chs ch n).getD (j - 1) 0 * ch (j - 1) := Rat.mul_nonneg g1 (Rat.le_of_lt c1.1)
    have st : (chs ch n).getD j 0 - (chs ch n).getD j 0 * ch j = (chs ch n).getD j 0 * (1 - ch j) := by grind
    have st0 : 0 ≤ (chs ch n).getD j 0 * (1 - ch j) := Rat.mul_nonneg g0 (by have := c0.2; grind)
    rw [st]
    constructor
    · intro h
      by_cases hj : j = 0
      · subst hj
        rw [if_pos rfl, Rat.zero_add] at h
        have hp : 0 < 1 - ch 0 := by
          rcases Rat.le_iff_lt_or_eq.mp c0.2 with z | z
          · grind
          · rw [z, Rat.sub_self, Rat.mul_zero] at h
            exact absurd h Rat.lt_irrefl
        exact ⟨Nat.zero_le _, .inr ⟨0, Nat.le_refl _, by grind⟩⟩
      · rw [if_neg hj] at h
        by_cases ha : 0 < (chs ch n).getD (j - 1) 0
        · obtain ⟨h1, h2⟩ := i1.mp ha
          refine ⟨by omega, ?_⟩
          rcases h2 with z | ⟨i, hi, z⟩
          · exact .inl (by omega)
          · exact .inr ⟨i, by omega, z⟩
        · have e : (chs ch n).getD (j - 1) 0 = 0 := by
            rcases Rat.le_iff_lt_or_eq.mp g1 with z | z
            · exact absurd z ha
            · exact z.symm
          rw [e, Rat.zero_mul, Rat.zero_add] at h
          have hq : 0 < (chs ch n).getD j 0 := by
            rcases Rat.le_iff_lt_or_eq.mp g0 with z | z
            · exact z
            · rw [← z, Rat.zero_mul] at h
              exact absurd h Rat.lt_irrefl
          have hp : ch j < 1 := by
            rcases Rat.le_iff_lt_or_eq.mp c0.2 with z | z
            · exact z
            · rw [z, Rat.sub_self, Rat.mul_zero] at h
              exact absurd h Rat.lt_irrefl
          obtain ⟨h1, h2⟩ := i0.mp hq
          exact ⟨by omega, .inr ⟨j, Nat.le_refl _, hp⟩⟩
    · rintro ⟨h1, h2⟩
      have pos1 : j ≠ 0 → CanB ch n (j - 1) → 0 < (if j = 0 then 0 else (chs ch n).getD (j - 1) 0 * ch (j - 1)) + (chs ch n).getD j 0 * (1 - ch j) := fun hj hcb => by
        rw [if_neg hj]
        have := Rat.mul_pos (i1.mpr hcb) c1.1
        grind
      have pos2 : ch j < 1 → CanB ch n j → 0 < (if j = 0 then 0 else (chs ch n).getD (j - 1) 0 * ch (j - 1)) + (chs ch n).getD j 0 * (1 - ch j) := fun hj hcb => by
        have h3 := Rat.mul_pos (i0.mpr hcb) (show 0 < 1 - ch j by grind)
        by_cases z : j = 0
        · rw [if_pos z]
          grind
        · rw [if_neg z]
          grind
      rcases h2 with z | ⟨i, hi, z⟩
      · exact pos1 (by omega) ⟨by omega, .inl (by omega)⟩
      · by_cases hj : j = 0
        · have e : i = 0 := by omega
          subst e hj
          exact pos2 z ⟨Nat.zero_le _, .inr ⟨0, Nat.le_refl _, z⟩⟩
        · by_cases hjn : j = n + 1
          · exact pos1 hj ⟨by omega, .inl (by omega)⟩
          · by_cases hij : i ≤ j - 1
            · exact pos1 hj ⟨by omega, .inr ⟨i, hij, z⟩⟩
            · have e : i = j := by omega
              subst e
              exact pos2 z ⟨by omega, .inr ⟨i, Nat.le_refl _, z⟩⟩
/-! ### waits -/
def wsum (ch : Nat → Rat) : Nat → Rat
  | 0 => 0
  | n + 1 => wsum ch n + (ch n)⁻¹
end DL
/-! SM2: plain mathematics: sizes with a sign, means by chances. -/
namespace DL
/-- q is z/M with |z| at most N -/
def Sz (M N : Nat) (q : Rat) : Prop := ∃ z : Int, q * (M : Rat) = (z : Rat) ∧ z.natAbs ≤ N
theorem Sz.isM {M N : Nat} {q : Rat} (h : Sz M N q) : IsM M q := let ⟨z, h, _⟩ := h; ⟨z, h⟩
theorem Sz.zero {M N : Nat} : Sz M N 0 := ⟨0, by rw [Rat.zero_mul]; rfl, Nat.zero_le _⟩
theorem Sz.mono {M N L : Nat} {q : Rat} (h : Sz M N q) (hl : N ≤ L) : Sz M L q := let ⟨z, h, g⟩ := h; ⟨z, h, Nat.le_trans g hl⟩
theorem Sz.add {M N L : Nat} {p q : Rat} (hp : Sz M N p) (hq : Sz M L q) : Sz M (N + L) (p + q) := by
  obtain ⟨a, ha, na⟩ := hp
  obtain ⟨b, hb, nb⟩ := hq
  refine ⟨a + b, ?_, by omega⟩
  rw [Rat.intCast_add, ← ha, ← hb]
  grind
theorem Sz.sub {M N L : Nat} {p q : Rat} (hp : Sz M N p) (hq : Sz M L q) : Sz M (N + L) (p - q) := by
  obtain ⟨a, ha, na⟩ := hp
  obtain ⟨b, hb, nb⟩ := hq
  refine ⟨a - b, ?_, by omega⟩
  rw [Rat.intCast_sub, ← ha, ← hb]
  grind
theorem Sz.neg {M N : Nat} {p : Rat} (hp : Sz M N p) : Sz M N (-p) := by
  obtain ⟨a, ha, na⟩ := hp
  refine ⟨-a, ?_, by omega⟩
  rw [Rat.intCast_neg, ← ha]
  grind
theorem Sz.mul {M N L R : Nat} {p q : Rat} (hp : Sz M N p) (hq : Sz L R q) : Sz (M * L) (N * R) (p * q) := by
  obtain ⟨a, ha, na⟩ := hp
  obtain ⟨b, hb, nb⟩ := hq
  refine ⟨a * b, ?_, by rw [Int.natAbs_mul]; exact Nat.mul_le_mul na nb⟩
  rw [Rat.natCast_mul, Rat.intCast_mul, ← ha, ← hb]
  grind
theorem Sz.scale {M N : Nat} {q : Rat} (h : Sz M N q) (k : Nat) : Sz (M * k) (N * k) q := by
  obtain ⟨a, ha, na⟩ := h
  refine ⟨a * k, ?_, by rw [Int.natAbs_mul, Int.natAbs_natCast]; exact Nat.mul_le_mul_right _ na⟩
  rw [Rat.natCast_mul, Rat.intCast_mul, ← ha]
  have : ((k : Int) : Rat) = (k : Rat) := rfl
  grind
theorem Sz.own (q : Rat) : Sz q.den q.num.natAbs q := by
  have h : q = (q.num : Rat) / (q.den : Rat) := by rw [← Rat.mkRat_eq_div, Rat.mkRat_self]
  have h0 : (q.den : Rat) ≠ 0 := nc_ne (Nat.pos_of_ne_zero q.den_nz)
  have := Rat.div_mul_cancel (a := (q.num : Rat)) h0
  rw [← h] at this
  exact ⟨q.num, this, Nat.le_refl _⟩
theorem Sz.unit {M : Nat} {q : Rat} (hM : 0 < M) (h : IsM M q) (h0 : 0 ≤ q) (h1 : q ≤ 1) : Sz M M q := by
  obtain ⟨z, hz⟩ := h
  refine ⟨z, hz, ?_⟩
  have z0 : 0 ≤ z := by
    have : (0 : Rat) ≤ (z : Rat) := by
      rw [← hz]
      exact Rat.mul_nonneg h0 Rat.natCast_nonneg
    exact Rat.intCast_nonneg.mp this
  have z1 : z ≤ (M : Int) := by
    have : (z : Rat) ≤ ((M : Int) : Rat) := by
      rw [← hz]
      have e3 : ((M : Int) : Rat) = 1 * (M : Rat) := by rw [Rat.one_mul]; rfl
      rw [e3]
      exact Rat.mul_le_mul_of_nonneg_right h1 Rat.natCast_nonneg
    exact Rat.intCast_le_intCast.mp this
  omega
theorem Sz.nat {M : Nat} (n : Nat) : Sz M (n * M) (n : Rat) := ⟨(n * M : Nat), by
  have : (((n * M : Nat) : Int) : Rat) = ((n * M : Nat) : Rat) := rfl
  rw [this, Rat.natCast_mul], by rw [Int.natAbs_natCast]; exact Nat.le_refl _⟩
theorem sz_sum {M N : Nat} : ∀ {l : List Rat}, (∀ q ∈ l, Sz M N q) → Sz M (l.length * N) (sumR l)
  | [], _ => .zero
  | q :: r, h => by
    have h1 := h q List.mem_cons_self
    have h2 := sz_sum (l := r) fun x hx => h x (List.mem_cons_of_mem _ hx)
    rw [List.length_cons, Nat.succ_mul, Nat.add_comm]
    exact h1.add h2
/-! ### what is told on the mean -/
/-- the sum of weights by f, from place i on -/
def wE (f : Nat → Rat) : Nat → List Rat → Rat
  | _, [] => 0
  | i, q :: r => q * f i + wE f (i + 1) r
theorem wE_led (ch f : Nat → Rat) : ∀ (i : Nat) (a : Rat) (qs : List Rat), wE f i (led ch i a qs) = a * f i + wE f i qs + wE (fun l => ch l * (f (l + 1) - f l)) i qs
  | i, a, [] => by
    show a * f i + 0 = a * f i + 0 + 0
    grind
  | i, a, q :: r => by
    show (a + (q - q * ch i)) * f i + wE f (i + 1) (led ch (i + 1) (q * ch i) r) = a * f i + (q * f i + wE f (i + 1) r) + (q * (ch i * (f (i + 1) - f i)) + wE _ (i + 1) r)
    rw [wE_led ch f (i + 1) (q * ch i) r]
    grind
/-- the mean of f at a count -/
def Em (ch f : Nat → Rat) (n : Nat) : Rat := wE f 0 (chs ch n)
theorem Em_succ (ch f : Nat → Rat) (n : Nat) : Em ch f (n + 1) = Em ch f n + Em ch (fun l => ch l * (f (l + 1) - f l)) n := by
  show wE f 0 (led ch 0 0 (chs ch n)) = _
  rw [wE_led, Rat.zero_mul, Rat.zero_add]
  rfl
theorem Em_zero (ch f : Nat → Rat) : Em ch f 0 = f 0 := by
  show 1 * f 0 + 0 = f 0
  grind
theorem wE_congr {f g : Nat → Rat} : ∀ (i : Nat) (qs : List Rat), (∀ j, i ≤ j → j < i + qs.length → f j = g j) → wE f i qs = wE g i qs
  | _, [], _ => rfl
  | i, q :: r, h => by
    show q * f i + wE f (i + 1) r = q * g i + wE g (i + 1) r
    rw [h i (Nat.le_refl _) (by rw [List.length_cons]; omega), wE_congr (i + 1) r fun j h1 h2 => h j (by omega) (by rw [List.length_cons]; omega)]
theorem wE_one : ∀ (i : Nat) (qs : List Rat), wE (fun _ => 1) i qs = sumR qs
  | _, [] => rfl
  | i, q :: r => by
    show q * 1 + wE (fun _ => 1) (i + 1) r = q + sumR r
    rw [wE_one (i + 1) r, Rat.mul_one]
theorem wE_add (f g : Nat → Rat) : ∀ (i : Nat) (qs : List Rat), wE (fun l => f l + g l) i qs = wE f i qs + wE g i qs
  | _, [] => by show (0 : Rat) = 0 + 0; grind
  | i, q :: r => by
    show q * (f i + g i) + wE _ (i + 1) r = q * f i + wE f (i + 1) r + (q * g i + wE g (i + 1) r)
    rw [wE_add f g (i + 1) r]
    grind
theorem wE_mul (k : Rat) (f : Nat → Rat) : ∀ (i : Nat) (qs : List Rat), wE (fun l => k * f l) i qs = k * wE f i qs
  | _, [] => by show (0 : Rat) = k * 0; grind
  | i, q :: r => by
    show q * (k * f i) + wE _ (i + 1) r = k * (q * f i + wE f (i + 1) r)
    rw [wE_mul k f (i + 1) r]
    grind
theorem wE_append (f : Nat → Rat) : ∀ (i : Nat) (a b : List Rat), wE f i (a ++ b) = wE f i a + wE f (i + a.length) b
  | i, [], b => by show wE f i b = 0 + wE f (i + 0) b; rw [Rat.zero_add, Nat.add_zero]
  | i, q :: r, b => by
    show q * f i + wE f (i + 1) (r ++ b) = q * f i + wE f (i + 1) r + wE f (i + (r.length + 1)) b
    rw [wE_append f (i + 1) r b, show i + 1 + r.length = i + (r.length + 1) by omega, Rat.add_assoc]
theorem wE_sum (f : Nat → Rat) : ∀ (i : Nat) (qs : List Rat), wE f i qs = sumR ((List.range qs.length).map fun j => qs.getD j 0 * f (i + j))
  | _, [] => rfl
  | i, q :: r => by
    rw [List.length_cons, List.range_succ_eq_map, List.map_cons, List.map_map]
    show q * f i + wE f (i + 1) r = q * f (i + 0) + sumR _
    rw [wE_sum f (i + 1) r, Nat.add_zero]
    congr 2
    refine List.map_congr_left fun j _ => ?_
    show r.getD j 0 * f (i + 1 + j) = r.getD j 0 * f (i + (j + 1))
    rw [show i + 1 + j = i + (j + 1) by omega]
/-- the last chance: all counts went up -/
theorem led_last (ch : Nat → Rat) : ∀ (i : Nat) (a : Rat) (ini : List Rat) (z : Rat), ∃ ini', led ch i a (ini ++ [z]) = ini' ++ [z * ch (i + ini.length)] ∧ ini'.length = ini.length + 1
  | i, a, [], z => ⟨[a + (z - z * ch i)], by show _ :: [z * ch i] = _; rfl, rfl⟩
  | i, a, q :: r, z => by
    obtain ⟨ini', e, hl⟩ := led_last ch (i + 1) (q * ch i) r z
    refine ⟨(a + (q - q * ch i)) :: ini', ?_, by rw [List.length_cons, List.length_cons, hl]⟩
    show (a + (q - q * ch i)) :: led ch (i + 1) (q * ch i) (r ++ [z]) = _
    rw [e, List.length_cons, show i + 1 + r.length = i + (r.length + 1) by omega]
    rfl
theorem chs_last {ch : Nat → Rat} (hc : ∀ i, Ch (ch i)) : ∀ n, ∃ ini z, chs ch n = ini ++ [z] ∧ 0 < z ∧ ini.length = n
  | 0 => ⟨[], 1, rfl, by decide, rfl⟩
  | n + 1 => by
    obtain ⟨ini, z, e, hz, hl⟩ := chs_last hc n
    obtain ⟨ini', e', hl'⟩ := led_last ch 0 0 ini z
    refine ⟨ini', z * ch (0 + ini.length), ?_, Rat.mul_pos hz (hc _).1, by omega⟩
    show led ch 0 0 (chs ch n) = _
    rw [e, e']
/-- what a level tells -/
def tld (ga : Nat → Rat) : Nat → Rat
  | 0 => 0
  | n + 1 => tld ga n + ga n
theorem tld_sum (ga : Nat → Rat) : ∀ n, sumR ((List.range n).map ga) = tld ga n
  | 0 => rfl
  | n + 1 => by
    rw [List.range_succ, List.map_append, sumR_append, tld_sum ga n]
    show _ + (ga n + 0) = tld ga n + ga n
    rw [Rat.add_zero]
theorem mean_succ (ch ga : Nat → Rat) (n : Nat) : Em ch (tld ga) (n + 1) = Em ch (tld ga) n + Em ch (fun l => ch l * ga l) n := by
  rw [Em_succ]
  congr 1
  refine wE_congr _ _ fun j _ _ => ?_
  show ch j * (tld ga j + ga j - tld ga j) = ch j * ga j
  grind
/-- as long as a plan is true the mean is the count -/
theorem mean_true {ch ga : Nat → Rat} {u : Nat} (h : ∀ l, l < u → ch l * ga l = 1) : ∀ n, n ≤ u → Em ch (tld ga) n = (n : Rat)
  | 0, _ => by rw [Em_zero]; rfl
  | n + 1, hn => by
    rw [mean_succ, mean_true h n (by omega)]
    have : Em ch (fun l => ch l * ga l) n = 1 := by
      show wE _ 0 (chs ch n) = 1
      rw [wE_congr (g := fun _ => 1) 0 _ (fun j _ hj => h j (by rw [chs_length] at hj; omega)), wE_one, chs_sum]
    rw [this, Rat.natCast_add]
    rfl
/-- one count behind the first level that is not true the mean errs -/
theorem mean_untrue {ch ga : Nat → Rat} (hc : ∀ i, Ch (ch i)) {u : Nat} (h : ∀ l, l < u → ch l * ga l = 1) (hu : ch u * ga u ≠ 1) : Em ch (tld ga) (u + 1) ≠ ((u + 1 : Nat) : Rat) := by
  intro e
  rw [mean_succ, mean_true h u (Nat.le_refl _), Rat.natCast_add] at e
  have e1 : Em ch (fun l => ch l * ga l) u = 1 := by
    have : ((1 : Nat) : Rat) = 1 := rfl
    grind
  obtain ⟨ini, z, ec, hz, hl⟩ := chs_last hc u
  have hs := chs_sum ch u
  unfold Em at e1
  rw [ec, wE_append, wE_congr (g := fun _ => 1) 0 ini (fun j _ hj => h j (by omega)), wE_one] at e1
  rw [ec, sumR_append] at hs
  have e2 : wE (fun l => ch l * ga l) (0 + ini.length) [z] = z * (ch u * ga u) := by
    show z * (ch (0 + ini.length) * ga (0 + ini.length)) + 0 = _
    rw [Nat.zero_add, hl, Rat.add_zero]
  have e3 : sumR [z] = z := by show z + 0 = z; rw [Rat.add_zero]
  rw [e2] at e1
  rw [e3] at hs
  have e4 : z * (ch u * ga u) = z * 1 := by grind
  have e5 : z * (ch u * ga u - 1) = 0 := by grind
  rcases Rat.mul_eq_zero.mp e5 with e6 | e6
  · exact Rat.ne_of_gt hz e6
  · exact hu (by grind)
end DL
/-! SM4: plain mathematics: registers put together. -/
namespace DL
/-! ### sums over levels -/
def su : Nat → (Nat → Rat) → Rat
  | 0, _ => 0
  | n + 1, f => su n f + f n
theorem su_congr {f g : Nat → Rat} : ∀ n, (∀ i, i < n → f i = g i) → su n f = su n g
  | 0, _ => rfl
  | n + 1, h => by
    show su n f + f n = su n g + g n
    rw [su_congr n fun i hi => h i (by omega), h n (by omega)]
theorem su_add (f g : Nat → Rat) : ∀ n, su n (fun i => f i + g i) = su n f + su n g
  | 0 => by show (0 : Rat) = 0 + 0; grind
  | n + 1 => by
    show su n _ + (f n + g n) = su n f + f n + (su n g + g n)
    rw [su_add f g n]
    grind
theorem su_mul (k : Rat) (f : Nat → Rat) : ∀ n, su n (fun i => k * f i) = k * su n f
  | 0 => by show (0 : Rat) = k * 0; grind
  | n + 1 => by
    show su n _ + k * f n = k * (su n f + f n)
    rw [su_mul k f n]
    grind
theorem su_zero {f : Nat → Rat} : ∀ n, (∀ i, i < n → f i = 0) → su n f = 0
  | 0, _ => rfl
  | n + 1, h => by
    show su n f + f n = 0
    rw [su_zero n fun i hi => h i (by omega), h n (by omega)]
    grind
theorem su_more {f : Nat → Rat} {n : Nat} : ∀ m, (∀ i, n ≤ i → f i = 0) → su (n + m) f = su n f
  | 0, _ => rfl
  | m + 1, h => by
    show su (n + m) f + f (n + m) = su n f
    rw [su_more m h, h (n + m) (by omega), Rat.add_zero]
theorem su_shift (f : Nat → Rat) : ∀ n, su (n + 1) f = f 0 + su n (fun i => f (i + 1))
  | 0 => by show (0 : Rat) + f 0 = f 0 + 0; grind
  | n + 1 => by
    show su (n + 1) f + f (n + 1) = f 0 + (su n (fun i => f (i + 1)) + f (n + 1))
    rw [su_shift f n]
    grind
theorem su_comm (f : Nat → Nat → Rat) (m : Nat) : ∀ n, su n (fun i => su m (f i)) = su m (fun j => su n (fun i => f i j))
  | 0 => (su_zero m fun _ _ => rfl).symm
  | n + 1 => by
    show su n _ + su m (f n) = su m (fun j => su n (fun i => f i j) + f n j)
    rw [su_add, su_comm f m n]
/-! ### steps of weights -/
abbrev Wt := Nat → Rat
/-- one step: from each level up by one with the chance c -/
def stp (c : Wt) (f : Wt) : Wt := fun l => (if l = 0 then 0 else f (l - 1) * c (l - 1)) + (f l - f l * c l)
/-- what one step changes -/
def dif (c : Wt) (f : Wt) : Wt := fun l => (if l = 0 then 0 else f (l - 1) * c (l - 1)) - f l * c l
theorem stp_eq (c f : Wt) (k : Rat) : stp (fun l => c l * k) f = fun l => f l + k * dif c f l := by
  funext l
  unfold stp dif
  by_cases h : l = 0
  · rw [if_pos h, if_pos h]
    grind
  · rw [if_neg h, if_neg h]
    grind
theorem stp_one (c f : Wt) : stp c f = fun l => f l + dif c f l := by
  funext l
  unfold stp dif
  by_cases h : l = 0
  · simp only [if_pos h]
    grind
  · simp only [if_neg h]
    grind
theorem dif_add (c f g : Wt) : dif c (fun l => f l + g l) = fun l => dif c f l + dif c g l := by
  funext l
  unfold dif
  by_cases h : l = 0
  · rw [if_pos h, if_pos h, if_pos h]
    grind
  · rw [if_neg h, if_neg h, if_neg h]
    grind
theorem dif_mul (c f : Wt) (k : Rat) : dif c (fun l => k * f l) = fun l => k * dif c f l := by
  funext l
  unfold dif
  by_cases h : l = 0
  · rw [if_pos h, if_pos h]
    grind
  · rw [if_neg h, if_neg h]
    grind
theorem dif_su (c : Wt) (f : Nat → Wt) : ∀ n, dif c (fun l => su n (fun i => f i l)) = fun l => su n (fun i => dif c (f i) l)
  | 0 => by
    funext l
    show (if l = 0 then 0 else (0 : Rat) * c (l - 1)) - 0 * c l = 0
    split <;> grind
  | n + 1 => by
    show dif c (fun l => su n (fun i => f i l) + f n l) = fun l => su n (fun i => dif c (f i) l) + dif c (f n) l
    rw [dif_add, dif_su c f n]
/-- a step as it is made when registers are put together, by the chance of level j -/
def tst (c : Wt) (j : Nat) (f : Wt) : Wt := fun l => f l + (c j)⁻¹ * dif c f l
theorem tst_eq (c : Wt) (j : Nat) (f : Wt) : stp (fun l => c l * (c j)⁻¹) f = tst c j f := stp_eq c f _
theorem tst_comm (c : Wt) (i j : Nat) (f : Wt) : tst c i (tst c j f) = tst c j (tst c i f) := by
  have e : ∀ i j, tst c i (tst c j f) = fun l => f l + (c j)⁻¹ * dif c f l + ((c i)⁻¹ * dif c f l + (c i)⁻¹ * ((c j)⁻¹ * dif c (dif c f) l)) := fun i j => by
    funext l
    show f l + (c j)⁻¹ * dif c f l + (c i)⁻¹ * dif c (fun l => f l + (c j)⁻¹ * dif c f l) l = _
    rw [dif_add, dif_mul]
    grind
  rw [e i j, e j i]
  funext l
  grind
/-- the steps by the levels below n -/
def tn (c : Wt) : Nat → Wt → Wt
  | 0, f => f
  | n + 1, f => tst c n (tn c n f)
theorem tn_tst (c : Wt) (j : Nat) (f : Wt) : ∀ n, tn c n (tst c j f) = tst c j (tn c n f)
  | 0 => rfl
  | n + 1 => by
    show tst c n (tn c n (tst c j f)) = tst c j (tst c n (tn c n f))
    rw [tn_tst c j f n, tst_comm]
theorem tn_comm (c : Wt) (m : Nat) (f : Wt) : ∀ n, tn c n (tn c m f) = tn c m (tn c n f)
  | 0 => rfl
  | n + 1 => by
    show tst c n (tn c n (tn c m f)) = tn c m (tst c n (tn c n f))
    rw [tn_comm c m f n, tn_tst]
/-- surely at a level -/
def dlt (h : Nat) : Wt := fun l => if l = h then 1 else 0
theorem tst_dlt {c : Wt} {a : Nat} (h : c a ≠ 0) : tst c a (dlt a) = dlt (a + 1) := by
  funext l
  unfold tst dif dlt
  have hi := Rat.inv_mul_cancel _ h
  by_cases h1 : l = a
  · subst h1
    rw [if_pos rfl, if_neg (show ¬ l = l + 1 by omega)]
    by_cases h0 : l = 0
    · rw [if_pos h0]
      grind
    · rw [if_neg h0, if_neg (show ¬ l - 1 = l by omega)]
      grind
  · rw [if_neg h1]
    by_cases h2 : l = a + 1
    · subst h2
      rw [if_neg (show ¬ a + 1 = 0 by omega), if_pos (show a + 1 - 1 = a by omega), if_pos rfl, show a + 1 - 1 = a by omega]
      grind
    · rw [if_neg h2]
      by_cases h0 : l = 0
      · rw [if_pos h0]
        grind
      · rw [if_neg h0, if_neg (show ¬ l - 1 = a by omega)]
        grind
theorem tn_dlt {c : Wt} (hc : ∀ i, c i ≠ 0) : ∀ a, tn c a (dlt 0) = dlt a
  | 0 => rfl
  | a + 1 => by
    show tst c a (tn c a (dlt 0)) = _
    rw [tn_dlt hc a, tst_dlt (hc a)]
theorem tn_sym {c : Wt} (hc : ∀ i, c i ≠ 0) (a b : Nat) : tn c b (dlt a) = tn c a (dlt b) := by
  rw [← tn_dlt hc a, ← tn_dlt hc b, tn_comm]
/-! ### counting goes with putting together -/
/-- the chances of all levels at a count -/
def Pc (c : Wt) : Nat → Wt
  | 0 => dlt 0
  | n + 1 => stp c (Pc c n)
theorem Pc_out (c : Wt) : ∀ n l, n < l → Pc c n l = 0
  | 0, l, h => by
    show (if l = 0 then (1 : Rat) else 0) = 0
    rw [if_neg (by omega)]
  | n + 1, l, h => by
    show (if l = 0 then 0 else Pc c n (l - 1) * c (l - 1)) + (Pc c n l - Pc c n l * c l) = 0
    rw [Pc_out c n l (by omega), Pc_out c n (l - 1) (by omega)]
    split <;> grind
/-- m steps of counting -/
def itS (c : Wt) : Nat → Wt → Wt
  | 0, f => f
  | m + 1, f => stp c (itS c m f)
theorem itS_eq {c : Wt} (hc : ∀ i, c i ≠ 0) (f : Wt) : ∀ m, itS c m f = fun l => su (m + 1) (fun b => Pc c m b * tn c b f l)
  | 0 => by
    funext l
    show f l = 0 + (if 0 = 0 then (1 : Rat) else 0) * f l
    rw [if_pos rfl]
    grind
  | m + 1 => by
    show stp c (itS c m f) = _
    rw [itS_eq hc f m, stp_one, dif_su]
    funext l
    have e1 : (fun b => Pc c (m + 1) b * tn c b f l) = fun b => (if b = 0 then 0 else Pc c m (b - 1) * c (b - 1)) * tn c b f l + (Pc c m b - Pc c m b * c b) * tn c b f l := by
      funext b
      show ((if b = 0 then 0 else Pc c m (b - 1) * c (b - 1)) + (Pc c m b - Pc c m b * c b)) * tn c b f l = _
      grind
    rw [e1, su_add]
    have e2 : su (m + 2) (fun b => (if b = 0 then 0 else Pc c m (b - 1) * c (b - 1)) * tn c b f l) = su (m + 1) (fun b => Pc c m b * c b * tn c (b + 1) f l) := by
      rw [su_shift, if_pos rfl, Rat.zero_mul, Rat.zero_add]
      refine su_congr _ fun i _ => ?_
      rw [if_neg (by omega), show i + 1 - 1 = i by omega]
    have e3 : su (m + 2) (fun b => (Pc c m b - Pc c m b * c b) * tn c b f l) = su (m + 1) (fun b => (Pc c m b - Pc c m b * c b) * tn c b f l) := by
      refine su_more (n := m + 1) 1 fun i hi => ?_
      rw [Pc_out c m i (by omega)]
      grind
    show su (m + 1) (fun b => Pc c m b * tn c b f l) + su (m + 1) (fun b => dif c (fun l => Pc c m b * tn c b f l) l) = su (m + 2) _ + su (m + 2) _
    rw [e2, e3, ← su_add, ← su_add]
    refine su_congr _ fun b _ => ?_
    have hb := Rat.mul_inv_cancel _ (hc b)
    show Pc c m b * tn c b f l + dif c (fun l => Pc c m b * tn c b f l) l = Pc c m b * c b * (tn c b f l + (c b)⁻¹ * dif c (tn c b f) l) + (Pc c m b - Pc c m b * c b) * tn c b f l
    rw [dif_mul]
    have e4 : Pc c m b * c b * (tn c b f l + (c b)⁻¹ * dif c (tn c b f) l) = Pc c m b * c b * tn c b f l + Pc c m b * (c b * (c b)⁻¹) * dif c (tn c b f) l := by grind
    rw [e4, hb]
    grind
theorem itS_Pc (c : Wt) (n : Nat) : ∀ m, itS c m (Pc c n) = Pc c (n + m)
  | 0 => rfl
  | m + 1 => by
    show stp c (itS c m (Pc c n)) = stp c (Pc c (n + m))
    rw [itS_Pc c n m]
theorem itS_lin (c : Wt) (k : Nat → Rat) (f : Nat → Wt) (n : Nat) : ∀ m, itS c m (fun l => su n (fun i => k i * f i l)) = fun l => su n (fun i => k i * itS c m (f i) l)
  | 0 => rfl
  | m + 1 => by
    show stp c (itS c m _) = _
    rw [itS_lin c k f n m, stp_one, dif_su]
    funext l
    show su n (fun i => k i * itS c m (f i) l) + su n (fun i => dif c (fun l => k i * itS c m (f i) l) l) = su n (fun i => k i * stp c (itS c m (f i)) l)
    rw [← su_add]
    refine su_congr _ fun i _ => ?_
    rw [dif_mul, stp_one]
    grind
theorem Pc_dlt (c : Wt) (n : Nat) : Pc c n = fun l => su (n + 1) (fun a => Pc c n a * dlt a l) := by
  funext l
  have key : ∀ m, su m (fun a => Pc c n a * dlt a l) = if l < m then Pc c n l else 0 := fun m => by
    induction m with
    | zero => rfl
    | succ m ih =>
      show su m _ + Pc c n m * (if l = m then 1 else 0) = _
      rw [ih]
      by_cases h1 : l < m
      · rw [if_pos h1, if_neg (show ¬ l = m by omega), if_pos (show l < m + 1 by omega)]
        grind
      · rw [if_neg h1]
        by_cases h2 : l = m
        · subst h2
          rw [if_pos rfl, if_pos (show l < l + 1 by omega)]
          grind
        · rw [if_neg h2, if_neg (show ¬ l < m + 1 by omega)]
          grind
  rw [key]
  by_cases h : l < n + 1
  · rw [if_pos h]
  · rw [if_neg h, Pc_out c n l (by omega)]
/-- registers put together have just the chances of one that has counted all -/
theorem joined {c : Wt} (hc : ∀ i, c i ≠ 0) (n m l : Nat) : su (n + 1) (fun a => su (m + 1) (fun b => Pc c n a * Pc c m b * tn c b (dlt a) l)) = Pc c (n + m) l := by
  rw [← itS_Pc c n m]
  have e := congrFun (congrArg (itS c m) (Pc_dlt c n)) l
  rw [e, itS_lin]
  refine su_congr _ fun a _ => ?_
  show _ = Pc c n a * itS c m (dlt a) l
  rw [itS_eq hc, ← su_mul]
  refine su_congr _ fun b _ => ?_
  grind
/-! ### what is told by registers put together -/
/-- the mean of g over weights below n -/
theorem dif_mean (c f g : Wt) : ∀ n, f n = 0 → su (n + 1) (fun l => dif c f l * g l) = su n (fun l => f l * c l * (g (l + 1) - g l)) := fun n hn => by
  have e : (fun l => dif c f l * g l) = fun l => (if l = 0 then 0 else f (l - 1) * c (l - 1)) * g l + (-1) * (f l * c l * g l) := by
    funext l
    unfold dif
    grind
  rw [e, su_add, su_mul, su_shift, if_pos rfl, Rat.zero_mul, Rat.zero_add]
  have e2 : su n (fun i => (if i + 1 = 0 then 0 else f (i + 1 - 1) * c (i + 1 - 1)) * g (i + 1)) = su n (fun l => f l * c l * g (l + 1)) := by
    refine su_congr _ fun i _ => ?_
    rw [if_neg (by omega), show i + 1 - 1 = i by omega]
  rw [e2]
  show _ + -1 * (su n (fun l => f l * c l * g l) + f n * c n * g n) = _
  rw [hn]
  have e3 : su n (fun l => f l * c l * (g (l + 1) - g l)) = su n (fun l => f l * c l * g (l + 1)) + su n (fun l => (-1) * (f l * c l * g l)) := by
    rw [← su_add]
    refine su_congr _ fun i _ => ?_
    grind
  rw [e3, su_mul]
  grind
end DL
/-! SM5: plain mathematics: registers put together, as lists. -/
namespace DL
def mgc (c : Wt) (h j : Nat) : Nat → Rat := fun i => c (h + i) * (c j)⁻¹
def mg (c : Wt) (h : Nat) : Nat → List Rat
  | 0 => [1]
  | j + 1 => led (mgc c h j) 0 0 (mg c h j)
theorem mg_length (c : Wt) (h : Nat) : ∀ j, (mg c h j).length = j + 1
  | 0 => rfl
  | j + 1 => by
    unfold mg
    rw [led_length, mg_length c h j]
theorem mg_sum (c : Wt) (h : Nat) : ∀ j, sumR (mg c h j) = 1
  | 0 => by show (1 : Rat) + 0 = 1; rw [Rat.add_zero]
  | j + 1 => by
    unfold mg
    rw [led_sum, mg_sum c h j, Rat.zero_add]
/-- the chances never rise -/
def Falls (c : Wt) : Prop := ∀ i j, i ≤ j → c j ≤ c i
theorem mgc_ch {c : Wt} (hc : ∀ i, Ch (c i)) (hf : Falls c) {h j : Nat} (hj : j ≤ h) (i : Nat) : Ch (mgc c h j i) := by
  have h0 := (hc j).1
  have hi := Rat.inv_pos.mpr h0
  refine ⟨Rat.mul_pos (hc _).1 hi, ?_⟩
  have := Rat.mul_le_mul_of_nonneg_right (hf j (h + i) (by omega)) (Rat.le_of_lt hi)
  rw [Rat.mul_inv_cancel _ (Rat.ne_of_gt h0)] at this
  exact this
theorem mg_nonneg {c : Wt} (hc : ∀ i, Ch (c i)) (hf : Falls c) {h : Nat} : ∀ j, j ≤ h → ∀ q ∈ mg c h j, 0 ≤ q
  | 0, _, q, hq => by
    have : q = 1 := by simpa [mg] using hq
    rw [this]
    decide
  | j + 1, hj, q, hq => led_nonneg (mgc_ch hc hf (by omega)) 0 0 _ Rat.le_refl (mg_nonneg hc hf j (by omega)) q hq
theorem mg_le {c : Wt} (hc : ∀ i, Ch (c i)) (hf : Falls c) {h j : Nat} (hj : j ≤ h) {q : Rat} (hq : q ∈ mg c h j) : q ≤ 1 := by
  rw [← mg_sum c h j]
  exact le_sumR (mg_nonneg hc hf j hj) hq
/-- the ratios used are whole multiples of 1/B -/
def MgB (c : Wt) (h N B : Nat) : Prop := ∀ j, j < N → ∀ i, i ≤ j → IsM B (mgc c h j i)
theorem mg_isM {c : Wt} {h N B : Nat} (hb : MgB c h N B) : ∀ j, j ≤ N → ∀ q ∈ mg c h j, IsM (B ^ j) q
  | 0, _, q, hq => by
    have : q = 1 := by simpa [mg] using hq
    rw [this]
    exact isM_one
  | j + 1, hj, q, hq => by
    rw [Nat.pow_succ]
    exact led_isM (k := j + 1) (fun i hi => hb j (by omega) i (by omega)) 0 0 _ (by rw [mg_length]; omega) isM_zero (mg_isM hb j (by omega)) q hq
theorem led_get (ch : Nat → Rat) (qs : List Rat) (j : Nat) : (led ch 0 0 qs).getD j 0 = (if j = 0 then 0 else qs.getD (j - 1) 0 * ch (j - 1)) + (qs.getD j 0 - qs.getD j 0 * ch j) := by
  rw [led_eq]
  by_cases h : j < qs.length + 1
  · rw [List.getD_eq_getElem?_getD, List.getElem?_map, List.getElem?_range h]
    show (if j = 0 then 0 else qs.getD (j - 1) 0 * ch (0 + j - 1)) + (qs.getD j 0 - qs.getD j 0 * ch (0 + j)) = _
    rw [Nat.zero_add]
  · have e1 : qs.getD j 0 = 0 := by
      rw [List.getD_eq_getElem?_getD, List.getElem?_eq_none (by omega)]
      rfl
    have e2 : qs.getD (j - 1) 0 = 0 := by
      rw [List.getD_eq_getElem?_getD, List.getElem?_eq_none (by omega)]
      rfl
    rw [List.getD_eq_getElem?_getD, List.getElem?_eq_none (by simp; omega), e1, e2, if_neg (by omega)]
    show (0 : Rat) = _
    rw [Rat.zero_mul, Rat.zero_mul]
    grind
theorem tn_lo (c : Wt) (h : Nat) : ∀ j l, l < h → tn c j (dlt h) l = 0
  | 0, l, hl => by
    show (if l = h then (1 : Rat) else 0) = 0
    rw [if_neg (by omega)]
  | j + 1, l, hl => by
    show tn c j (dlt h) l + (c j)⁻¹ * ((if l = 0 then 0 else tn c j (dlt h) (l - 1) * c (l - 1)) - tn c j (dlt h) l * c l) = 0
    rw [tn_lo c h j l hl, tn_lo c h j (l - 1) (by omega)]
    split <;> grind
theorem mg_get (c : Wt) (h : Nat) : ∀ j i, (mg c h j).getD i 0 = tn c j (dlt h) (h + i)
  | 0, i => by
    show [(1 : Rat)].getD i 0 = if h + i = h then 1 else 0
    cases i with
    | zero => rw [if_pos (by omega)]; rfl
    | succ i => rw [if_neg (by omega)]; rfl
  | j + 1, i => by
    show (led (mgc c h j) 0 0 (mg c h j)).getD i 0 = tn c j (dlt h) (h + i) + (c j)⁻¹ * ((if h + i = 0 then 0 else tn c j (dlt h) (h + i - 1) * c (h + i - 1)) - tn c j (dlt h) (h + i) * c (h + i))
    rw [led_get, mg_get c h j i, mg_get c h j (i - 1)]
    unfold mgc
    by_cases h0 : i = 0
    · subst h0
      rw [if_pos rfl]
      by_cases h1 : h + 0 = 0
      · rw [if_pos h1]
        grind
      · rw [if_neg h1, tn_lo c h j (h + 0 - 1) (by omega)]
        grind
    · rw [if_neg h0, if_neg (by omega), show h + (i - 1) = h + i - 1 by omega]
      grind
theorem wE_shift (f : Nat → Rat) (h : Nat) : ∀ (i : Nat) (qs : List Rat), wE (fun l => f (h + l)) i qs = wE f (h + i) qs
  | _, [] => rfl
  | i, q :: r => by
    show q * f (h + i) + wE (fun l => f (h + l)) (i + 1) r = q * f (h + i) + wE f (h + i + 1) r
    rw [wE_shift f h (i + 1) r]
    rfl
theorem mg_mean {c g : Wt} (hg : ∀ i, c i * g i = 1) (h : Nat) : ∀ j, wE (fun i => tld g (h + i)) 0 (mg c h j) = tld g h + tld g j
  | 0 => by
    show 1 * tld g (h + 0) + 0 = tld g h + 0
    rw [Rat.one_mul]
    rfl
  | j + 1 => by
    show wE (fun i => tld g (h + i)) 0 (led (mgc c h j) 0 0 (mg c h j)) = tld g h + (tld g j + g j)
    rw [wE_led, mg_mean hg h j]
    have e : (fun l => mgc c h j l * (tld g (h + (l + 1)) - tld g (h + l))) = fun l => (c j)⁻¹ * 1 := by
      funext l
      show c (h + l) * (c j)⁻¹ * (tld g (h + l) + g (h + l) - tld g (h + l)) = _
      have := hg (h + l)
      grind
    have hj : (c j)⁻¹ = g j := by
      have h1 := hg j
      have h0 : c j ≠ 0 := fun z => by rw [z, Rat.zero_mul] at h1; exact absurd h1 (by decide)
      have h2 := Rat.inv_mul_cancel _ h0
      grind
    rw [e, wE_mul, wE_one, mg_sum, hj]
    grind
/-! ### all counts -/
theorem chs_Pc (c : Wt) : ∀ n l, (chs c n).getD l 0 = Pc c n l
  | 0, l => by
    show [(1 : Rat)].getD l 0 = if l = 0 then 1 else 0
    cases l with
    | zero => rfl
    | succ l => rw [if_neg (by omega)]; rfl
  | n + 1, l => by
    rw [chs_get, chs_Pc c n l, chs_Pc c n (l - 1)]
    rfl
/-- what a pair of counts gives to a level -/
def jn (c : Wt) (n m a b l : Nat) : Rat := su (min a b + 1) fun i => Pc c n a * Pc c m b * (mg c (max a b) (min a b)).getD i 0 * dlt (max a b + i) l
theorem su_dlt (f : Nat → Rat) (h : Nat) : ∀ n l, su n (fun i => f i * dlt (h + i) l) = if h ≤ l ∧ l < h + n then f (l - h) else 0
  | 0, l => by
    rw [if_neg (by omega)]
    rfl
  | n + 1, l => by
    show su n _ + f n * (if l = h + n then 1 else 0) = _
    rw [su_dlt f h n l]
    by_cases h1 : l = h + n
    · subst h1
      rw [if_neg (by omega), if_pos rfl, if_pos (by omega), show h + n - h = n by omega]
      grind
    · rw [if_neg h1]
      by_cases h2 : h ≤ l ∧ l < h + n
      · rw [if_pos h2, if_pos (by omega)]
        grind
      · rw [if_neg h2, if_neg (by omega)]
        grind
theorem jn_eq {c : Wt} (hc : ∀ i, c i ≠ 0) (n m a b l : Nat) : jn c n m a b l = Pc c n a * Pc c m b * tn c b (dlt a) l := by
  unfold jn
  rw [su_dlt (fun i => Pc c n a * Pc c m b * (mg c (max a b) (min a b)).getD i 0)]
  have key : tn c (min a b) (dlt (max a b)) l = if max a b ≤ l ∧ l < max a b + (min a b + 1) then (mg c (max a b) (min a b)).getD (l - max a b) 0 else 0 := by
    by_cases h : max a b ≤ l
    · rw [mg_get, show max a b + (l - max a b) = l by omega]
      by_cases h2 : l < max a b + (min a b + 1)
      · rw [if_pos ⟨h, h2⟩]
      · rw [if_neg (by omega)]
        have := mg_get c (max a b) (min a b) (l - max a b)
        rw [show max a b + (l - max a b) = l by omega] at this
        rw [← this, List.getD_eq_getElem?_getD, List.getElem?_eq_none (by rw [mg_length]; omega)]
        rfl
    · rw [if_neg (by omega), tn_lo c _ _ _ (by omega)]
  have e : tn c b (dlt a) l = tn c (min a b) (dlt (max a b)) l := by
    by_cases h : a ≤ b
    · rw [Nat.min_eq_left h, Nat.max_eq_right h, tn_sym hc]
    · rw [Nat.min_eq_right (by omega), Nat.max_eq_left (by omega)]
  rw [e, key]
  split <;> grind
theorem jn_all {c : Wt} (hc : ∀ i, c i ≠ 0) (n m l : Nat) : su (n + 1) (fun a => su (m + 1) fun b => jn c n m a b l) = Pc c (n + m) l := by
  rw [← joined hc n m l]
  refine su_congr _ fun a _ => su_congr _ fun b _ => jn_eq hc n m a b l
theorem chs_tab (c : Wt) (n : Nat) : chs c n = (List.range (n + 1)).map fun l => Pc c n l := by
  refine List.ext_getElem? fun i => ?_
  rw [List.getElem?_map]
  by_cases h : i < n + 1
  · rw [List.getElem?_range h, List.getElem?_eq_getElem (by rw [chs_length]; exact h)]
    show some _ = some (Pc c n i)
    rw [← chs_Pc c n i, List.getD_eq_getElem?_getD, List.getElem?_eq_getElem (by rw [chs_length]; exact h)]
    rfl
  · rw [List.getElem?_eq_none (by rw [chs_length]; omega), List.getElem?_eq_none (by rw [List.length_range]; omega)]
    rfl
end DL
set_option maxHeartbeats 4000000
/-! fractions: the promises, the readings -/
namespace DL
open PySem PySem.Spec PyProof.Rows L2
/-! ### short words for readings -/
theorem atI_n {α : Type} (xs : List α) (n : Nat) : atI xs (n : Int) = xs[n]? := by
  cases h : xs[n]? with
  | some v => exact atI_nat h
  | none =>
    unfold atI ixN
    have := List.getElem?_eq_none_iff.mp h
    rw [if_pos (by omega), if_neg (by omega)]
    rfl
theorem atI_0 {α : Type} (xs : List α) : atI xs 0 = xs[0]? := atI_n xs 0
theorem atI_1 {α : Type} (xs : List α) : atI xs 1 = xs[1]? := atI_n xs 1
theorem atI_2 {α : Type} (xs : List α) : atI xs 2 = xs[2]? := atI_n xs 2
theorem atI_3 {α : Type} (xs : List α) : atI xs 3 = xs[3]? := atI_n xs 3
theorem eqd_int (a b : Int) : eqd (.int a) (.int b) = decide (a = b) := by
  unfold eqd py PyData.eqv
  exact Bool.beq_eq_decide_eq a b
theorem okd_int (a : Int) : okd (.int a) = true := rfl
local macro_rules | `(tactic| walk_at "dl") => `(tactic| simp only [wSeq, wAsg, wRet, wVar, wC, wOp, wUn, wTest, wChain, wTru, wAnd, wOr, wNot, wAndV, wOrV, wNotV, wIf, wNil, wCons, wTup, wLst, wLstM, wCall0, wCall, wRaise, wB, wSl, wPart, wNoPart, wNext, wDrop, wIfS, wPar, wAsgG, wSetI, wApp, dgName, dgTup, dgCons, dgNil, gt, List.set, dAdd, dSub, dMul, dFdiv, dMod, dPow, dNeg, dCmpI, dEq, dNe, dIsN, dNotN, isN, dLen, dIsi, tyD, dAbs, dMax, dMin, dInt, dBool, dTuple, dList, dIx, dSl, atI_0, atI_1, atI_2, atI_3, eqd_int, okd_int,
  List.getElem?_cons_zero, List.getElem?_cons_succ, List.length_cons, List.length_nil, startD, List.map_cons, List.map_nil, List.cons_append, List.nil_append, List.append_nil, List.replicate, List.replicate_zero, List.replicate_succ, Nat.sub_self, if_true, if_false, Bool.false_eq_true, ite_true, ite_false, reduceIte, true_and, and_true, decide_true, decide_false, Bool.not_true, Bool.not_false, Nat.reduceSub, Nat.reduceAdd])
/-! ### divisor -/
def sp_divisor : DSp := fun ds mu Φ _ => ∃ a b : Int, ds = [.int a, .int b] ∧ Φ (.int (Int.gcd a b)) mu
def w_divisor : DWS := (wSeq (wWhile (wTest (wOp dNe (wVar 1) (wC (.int 0)))) (wPar 0 1 (wCons (wVar 1) (wCons (wOp dMod (wVar 0) (wVar 1)) wNil))))
    (wRet (wB dAbs (wCons (wVar 0) wNil))))
theorem gcd_fmod (a b : Int) : Int.gcd b (a.fmod b) = Int.gcd a b := by
  have e : a.fmod b = a + b * (-(a.fdiv b)) := by
    have := Int.mul_fdiv_add_fmod a b
    rw [Int.mul_neg]
    omega
  rw [e, Int.gcd_add_mul_left_right, Int.gcd_comm]
theorem fmod_lt (a b : Int) (h : b ≠ 0) : (a.fmod b).natAbs < b.natAbs := by
  rcases Int.lt_or_gt_of_ne h with h | h
  · have e := Int.neg_fmod_neg (-a) (-b)
    rw [Int.neg_neg, Int.neg_neg] at e
    have h1 := Int.fmod_nonneg_of_pos (-a) (show 0 < -b by omega)
    have h2 := Int.fmod_lt_of_pos (-a) (show 0 < -b by omega)
    omega
  · have h1 := Int.fmod_nonneg_of_pos a h
    have h2 := Int.fmod_lt_of_pos a h
    omega
theorem rd_divisor : ∀ ds mu Φ, sp_divisor ds mu Φ X0 → w_divisor (startD 2 ds) mu ⟨fun _ mu' => fin mu Φ .non mu', fin mu Φ, fun _ _ => False, fun _ _ => False⟩ X0 := by
  rintro _ mu Φ ⟨a, b, rfl, h⟩
  unfold w_divisor
  walk_at "dl"
  refine ⟨fun m ρ mu' => ∃ x y : Int, ρ = [some (.int x), some (.int y)] ∧ mu' = mu ∧ Int.gcd x y = Int.gcd a b ∧ m = y.natAbs, ⟨_, a, b, rfl, rfl, rfl, rfl⟩, ?_⟩
  rintro m ρ mu' ⟨x, y, rfl, rfl, hg, rfl⟩
  walk_at "dl"
  by_cases hy : y = 0
  · subst hy
    rw [Int.gcd_zero_right] at hg
    rw [decide_eq_true rfl, Bool.not_true, if_neg Bool.false_ne_true, hg]
    exact .inl h
  · rw [decide_eq_false hy, Bool.not_false, if_pos rfl]
    exact ⟨hy, _, fmod_lt x y hy, y, x.fmod y, rfl, by rw [gcd_fmod]; exact hg, rfl⟩

/-! ### fractions -/
def fr (q : Rat) : D := .tup [.int q.num, .int (q.den : Int)]
def Fit (n : Nat) (q : Rat) : Prop := q.den < 2 ^ n ∧ q.num.natAbs < 2 ^ n
theorem fr_mk (a : Int) (b : Nat) (hb : 0 < b) : D.tup [.int (a / (Int.gcd a b : Nat)), .int ((b : Int) / (Int.gcd a b : Nat))] = fr (mkRat a b) := by
  unfold fr
  rw [Rat.num_mkRat, Rat.den_mkRat, if_neg (by omega), if_neg (by omega)]
  have e : b.gcd a.natAbs = Int.gcd a b := by rw [Int.gcd, Int.natAbs_natCast, Nat.gcd_comm]
  rw [e, Int.natCast_ediv]
def sp_fraction : DSp := fun ds mu Φ _ => ∃ (a : Int) (b : Nat), ds = [.int a, .int (b : Int)] ∧ 0 < b ∧ b < 2 ^ 9000 ∧ Φ (fr (mkRat a b)) mu
def w_fraction : DWS := (wSeq (wAsg 2 (wCall0 sp_divisor (wCons (wVar 0) (wCons (wVar 1) wNil))))
    (wSeq (wAsg 2 (wIf (wTest (wOp (dCmpI fun i j => decide (i < j)) (wVar 1) (wC (.int 0)))) (wOp dSub (wC (.int 0)) (wVar 2)) (wVar 2)))
    (wRet (wTup (wCons (wOp dFdiv (wVar 0) (wVar 2)) (wCons (wOp dFdiv (wVar 1) (wVar 2)) wNil))))))
theorem gcd_div (a : Int) {b : Nat} (hb : 0 < b) (h9 : b < 2 ^ 9000) : CDivW 0 ((Int.gcd a b : Nat) : Int) := by
  have h1 : 0 < Int.gcd a b := by
    rw [Int.gcd]
    exact Nat.gcd_pos_of_pos_right _ (by omega)
  have h2 : Int.gcd a b ≤ b := by
    rw [Int.gcd]
    exact Nat.le_of_dvd hb (by have := Nat.gcd_dvd_right a.natAbs (b : Int).natAbs; simpa using this)
  exact wide_div (b := 9000) (by omega) (by omega) (by decide) (Nat.le_refl _)
theorem cdiv_any {i j k : Int} (h : CDivW i k) : CDivW j k := h
theorem rd_fraction : ∀ ds mu Φ, sp_fraction ds mu Φ X0 → w_fraction (startD 3 ds) mu ⟨fun _ mu' => fin mu Φ .non mu', fin mu Φ, fun _ _ => False, fun _ _ => False⟩ X0 := by
  rintro _ mu Φ ⟨a, b, rfl, hb, h9, h⟩
  unfold w_fraction
  walk_at "dl"
  refine ⟨a, b, rfl, ?_⟩
  walk_at "dl"
  rw [decide_eq_false (show ¬ (b : Int) < 0 by omega)]
  walk_at "dl"
  exact ⟨cdiv_any (gcd_div a hb h9), cdiv_any (gcd_div a hb h9), .inl (by rw [fr_mk a b hb]; exact h)⟩
theorem Fit.mul {n m : Nat} {i : Int} {j : Int} (hi : i.natAbs < 2 ^ n) (hj : j.natAbs < 2 ^ m) (h0 : 0 < n) (h1 : 0 < m) (h : n + m ≤ 1000000) : CMulW i j := wide_mul hi hj h0 h1 h
theorem Fit.mono {n m : Nat} {q : Rat} (h : Fit n q) (hm : n ≤ m) : Fit m q := ⟨Nat.lt_of_lt_of_le h.1 (Nat.pow_le_pow_right (by decide) hm), Nat.lt_of_lt_of_le h.2 (Nat.pow_le_pow_right (by decide) hm)⟩
theorem den_pos' (q : Rat) : 0 < q.den := Nat.pos_of_ne_zero q.den_nz
theorem fit_den {n : Nat} {p q : Rat} (hp : Fit n p) (hq : Fit n q) (hn : n ≤ 4500) : p.den * q.den < 2 ^ 9000 := by
  have h : p.den * q.den < 2 ^ n * 2 ^ n := Nat.mul_lt_mul'' hp.1 hq.1
  rw [← Nat.pow_add] at h
  exact Nat.lt_of_lt_of_le h (Nat.pow_le_pow_right (by decide) (by omega))
def two (f : Rat → Rat → Rat) : DSp := fun ds mu Φ _ => ∃ p q : Rat, ds = [fr p, fr q] ∧ Fit 4400 p ∧ Fit 4400 q ∧ Φ (fr (f p q)) mu
abbrev sp_plus : DSp := two (· + ·)
abbrev sp_minus : DSp := two (· - ·)
abbrev sp_times : DSp := two (· * ·)
def w_plus : DWS := (wRet (wCall0 sp_fraction (wCons (wOp dAdd (wOp dMul (wOp dIx (wVar 0) (wC (.int 0))) (wOp dIx (wVar 1) (wC (.int 1)))) (wOp dMul (wOp dIx (wVar 1) (wC (.int 0))) (wOp dIx (wVar 0) (wC (.int 1))))) (wCons (wOp dMul (wOp dIx (wVar 0) (wC (.int 1))) (wOp dIx (wVar 1) (wC (.int 1)))) wNil))))
def w_minus : DWS := (wRet (wCall0 sp_fraction (wCons (wOp dSub (wOp dMul (wOp dIx (wVar 0) (wC (.int 0))) (wOp dIx (wVar 1) (wC (.int 1)))) (wOp dMul (wOp dIx (wVar 1) (wC (.int 0))) (wOp dIx (wVar 0) (wC (.int 1))))) (wCons (wOp dMul (wOp dIx (wVar 0) (wC (.int 1))) (wOp dIx (wVar 1) (wC (.int 1)))) wNil))))
def w_times : DWS := (wRet (wCall0 sp_fraction (wCons (wOp dMul (wOp dIx (wVar 0) (wC (.int 0))) (wOp dIx (wVar 1) (wC (.int 0)))) (wCons (wOp dMul (wOp dIx (wVar 0) (wC (.int 1))) (wOp dIx (wVar 1) (wC (.int 1)))) wNil))))
theorem mulZ {p q : Rat} (hp : Fit 4400 p) (hq : Fit 4400 q) : CMulW p.num q.den ∧ CMulW q.num p.den ∧ CMulW p.den q.den ∧ CMulW p.num q.num :=
  ⟨wide_mul hp.2 (by rw [Int.natAbs_natCast]; exact hq.1) (by decide) (by decide) (by decide), wide_mul hq.2 (by rw [Int.natAbs_natCast]; exact hp.1) (by decide) (by decide) (by decide),
   wide_mul (by rw [Int.natAbs_natCast]; exact hp.1) (by rw [Int.natAbs_natCast]; exact hq.1) (by decide) (by decide) (by decide), wide_mul hp.2 hq.2 (by decide) (by decide) (by decide)⟩
theorem rd_plus : ∀ ds mu Φ, sp_plus ds mu Φ X0 → w_plus (startD 2 ds) mu ⟨fun _ mu' => fin mu Φ .non mu', fin mu Φ, fun _ _ => False, fun _ _ => False⟩ X0 := by
  rintro _ mu Φ ⟨p, q, rfl, hp, hq, h⟩
  unfold w_plus
  simp only [fr]
  walk_at "dl"
  obtain ⟨m1, m2, m3, m4⟩ := mulZ hp hq
  refine ⟨m1, m2, m3, _, p.den * q.den, by rw [Int.natCast_mul], Nat.mul_pos (den_pos' p) (den_pos' q), fit_den hp hq (by decide), .inl ?_⟩
  rw [← Rat.add_def']
  exact h
theorem rd_minus : ∀ ds mu Φ, sp_minus ds mu Φ X0 → w_minus (startD 2 ds) mu ⟨fun _ mu' => fin mu Φ .non mu', fin mu Φ, fun _ _ => False, fun _ _ => False⟩ X0 := by
  rintro _ mu Φ ⟨p, q, rfl, hp, hq, h⟩
  unfold w_minus
  simp only [fr]
  walk_at "dl"
  obtain ⟨m1, m2, m3, m4⟩ := mulZ hp hq
  refine ⟨m1, m2, m3, _, p.den * q.den, by rw [Int.natCast_mul], Nat.mul_pos (den_pos' p) (den_pos' q), fit_den hp hq (by decide), .inl ?_⟩
  rw [← Rat.sub_def']
  exact h
theorem rd_times : ∀ ds mu Φ, sp_times ds mu Φ X0 → w_times (startD 2 ds) mu ⟨fun _ mu' => fin mu Φ .non mu', fin mu Φ, fun _ _ => False, fun _ _ => False⟩ X0 := by
  rintro _ mu Φ ⟨p, q, rfl, hp, hq, h⟩
  unfold w_times
  simp only [fr]
  walk_at "dl"
  obtain ⟨m1, m2, m3, m4⟩ := mulZ hp hq
  refine ⟨m4, m3, _, p.den * q.den, by rw [Int.natCast_mul], Nat.mul_pos (den_pos' p) (den_pos' q), fit_den hp hq (by decide), .inl ?_⟩
  rw [← Rat.mul_def']
  exact h
def sp_inverse : DSp := fun ds mu Φ _ => ∃ p : Rat, ds = [fr p] ∧ 0 < p ∧ Fit 8000 p ∧ Φ (fr p⁻¹) mu
def w_inverse : DWS := (wRet (wCall0 sp_fraction (wCons (wOp dIx (wVar 0) (wC (.int 1))) (wCons (wOp dIx (wVar 0) (wC (.int 0))) wNil))))
theorem num_pos_of {p : Rat} (h : 0 < p) : 0 < p.num := by
  have h1 : 0 ≤ p.num := Rat.num_nonneg.mpr (Rat.le_of_lt h)
  have h2 : p.num ≠ 0 := fun e => by
    have := Rat.num_eq_zero.mp e
    subst this
    exact Rat.lt_irrefl h
  omega
theorem rd_inverse : ∀ ds mu Φ, sp_inverse ds mu Φ X0 → w_inverse (startD 1 ds) mu ⟨fun _ mu' => fin mu Φ .non mu', fin mu Φ, fun _ _ => False, fun _ _ => False⟩ X0 := by
  rintro _ mu Φ ⟨p, rfl, h0, hp, h⟩
  unfold w_inverse
  simp only [fr]
  walk_at "dl"
  have h1 := num_pos_of h0
  refine ⟨_, p.num.toNat, by rw [Int.toNat_of_nonneg (by omega)], by omega, ?_, .inl ?_⟩
  · have := hp.2
    exact Nat.lt_of_lt_of_le (show p.num.toNat < 2 ^ 8000 by omega) (Nat.pow_le_pow_right (by decide) (by decide))
  · have e : p⁻¹ = mkRat p.den p.num.toNat := by
      rw [Rat.inv_def, ← Rat.divInt_ofNat, Int.toNat_of_nonneg (by omega)]
    rw [← e]
    exact h
/-! ### loops -/
theorem rgD_succ (lo : Int) (n : Nat) : rgD lo (n + 1) = .int lo :: rgD (lo + 1) n := by
  unfold rgD
  rw [List.range_succ_eq_map, List.map_cons, List.map_map]
  congr 1
  · simp
  · refine List.map_congr_left fun i _ => ?_
    simp only [Function.comp]
    congr 1
    omega
theorem rgD_zero (lo : Int) : rgD lo 0 = [] := rfl
def sp_power : DSp := fun ds mu Φ _ => ∃ (q : Rat) (n : Nat), ds = [fr q, .int (n : Int)] ∧ n ≤ 1000 ∧ Fit 4400 q ∧ (∀ j, j ≤ n → Fit 4400 (q ^ j)) ∧ Φ (fr (q ^ n)) mu
def w_power : DWS := (wSeq (wAsg 2 (wTup (wCons (wC (.int 1)) (wCons (wC (.int 1)) wNil))))
    (wSeq (wFor (wR1 (wCons (wVar 1) wNil)) (dgName 3) (wAsg 2 (wCall0 sp_times (wCons (wVar 2) (wCons (wVar 0) wNil)))))
    (wRet (wVar 2))))
theorem fr_one : fr 1 = D.tup [.int 1, .int 1] := rfl
theorem fr_zero : fr 0 = D.tup [.int 0, .int 1] := rfl
theorem power_go (q : Rat) (mu : MS) (Δ : DEnds) (N : Nat) (hf : ∀ j, j ≤ N → Fit 4400 (q ^ j)) (hq : Fit 4400 q) (n0 : D) : ∀ (n j : Nat) (lo : Int) (t : Option D), j + n = N → (∀ t, Δ.nx [some (fr q), some n0, some (fr (q ^ N)), t] mu) →
    wForGo (dgName 3) (wAsg 2 (wCall0 sp_times (wCons (wVar 2) (wCons (wVar 0) wNil)))) (rgD lo n) [some (fr q), some n0, some (fr (q ^ j)), t] mu Δ X0
  | 0, j, lo, t, e, h => by
    have : j = N := by omega
    subst this
    exact h t
  | n + 1, j, lo, t, e, h => by
    rw [rgD_succ]
    unfold wForGo
    walk_at "dl"
    refine ⟨q ^ j, q, rfl, hf j (by omega), hq, ?_⟩
    have := power_go q mu Δ N hf hq n0 n (j + 1) (lo + 1) (some (.int lo)) (by omega) h
    rw [Rat.pow_succ] at this
    exact this
theorem rd_power : ∀ ds mu Φ, sp_power ds mu Φ X0 → w_power (startD 4 ds) mu ⟨fun _ mu' => fin mu Φ .non mu', fin mu Φ, fun _ _ => False, fun _ _ => False⟩ X0 := by
  rintro _ mu Φ ⟨q, n, rfl, hn, hq, hf, h⟩
  unfold w_power wFor wR1
  walk_at "dl"
  refine ⟨by omega, by omega, ?_⟩
  rw [Int.toNat_natCast, show D.tup [.int 1, .int 1] = fr (q ^ 0) by rw [Rat.pow_zero]; rfl]
  refine power_go q mu _ n hf hq _ n 0 0 none (by omega) fun t => ?_
  walk_at "dl"
  exact .inl h

/-! ### plain data, kinds -/
mutual
def pl : D → Bool
  | .non => true
  | .bl _ => true
  | .int _ => true
  | .str _ => true
  | .tup xs => plL xs
  | .lst xs => plL xs
  | _ => false
def plL : List D → Bool
  | [] => true
  | d :: r => pl d && plL r
end
theorem plL_get {xs : List D} (h : plL xs = true) {i : Nat} {d : D} (e : xs[i]? = some d) : pl d = true := by
  induction xs generalizing i with
  | nil => simp at e
  | cons x r ih =>
    unfold plL at h
    rw [Bool.and_eq_true] at h
    cases i with
    | zero => simp at e; subst e; exact h.1
    | succ i => exact ih h.2 (by simpa using e)
theorem isT_0 : isT "int" "int" = true := by decide +kernel
theorem isT_1 : isT "int" "bool" = false := by decide +kernel
theorem isT_2 : isT "bool" "int" = true := by decide +kernel
theorem isT_3 : isT "bool" "bool" = true := by decide +kernel
theorem isT_4 : isT "str" "int" = false := by decide +kernel
theorem isT_5 : isT "NoneType" "int" = false := by decide +kernel
theorem isT_6 : isT "tuple" "int" = false := by decide +kernel
theorem isT_7 : isT "list" "int" = false := by decide +kernel
theorem isT_8 : isT "tuple" "tuple" = true := by decide +kernel
theorem isT_9 : isT "list" "tuple" = false := by decide +kernel
theorem isT_10 : isT "int" "tuple" = false := by decide +kernel
theorem isT_11 : isT "bool" "tuple" = false := by decide +kernel
theorem isT_12 : isT "str" "tuple" = false := by decide +kernel
theorem isT_13 : isT "NoneType" "tuple" = false := by decide +kernel
theorem isT_14 : isT "NoneType" "bool" = false := by decide +kernel
theorem isT_15 : isT "str" "bool" = false := by decide +kernel
theorem isT_16 : isT "tuple" "bool" = false := by decide +kernel
theorem isT_17 : isT "list" "bool" = false := by decide +kernel
theorem isT_18 : isT "NoneType" "str" = false := by decide +kernel
theorem isT_19 : isT "int" "str" = false := by decide +kernel
theorem isT_20 : isT "bool" "str" = false := by decide +kernel
theorem isT_21 : isT "str" "str" = true := by decide +kernel
theorem isT_22 : isT "tuple" "str" = false := by decide +kernel
theorem isT_23 : isT "list" "str" = false := by decide +kernel
theorem isT_24 : isT "NoneType" "list" = false := by decide +kernel
theorem isT_25 : isT "int" "list" = false := by decide +kernel
theorem isT_26 : isT "bool" "list" = false := by decide +kernel
theorem isT_27 : isT "str" "list" = false := by decide +kernel
theorem isT_28 : isT "tuple" "list" = false := by decide +kernel
theorem isT_29 : isT "list" "list" = true := by decide +kernel
theorem memT_0 : ("int" ∈ ["bool", "int", "str", "tuple", "list"]) = True := eq_true (by decide)
theorem memT_1 : ("bool" ∈ ["bool", "int", "str", "tuple", "list"]) = True := eq_true (by decide)
theorem memT_2 : ("str" ∈ ["bool", "int", "str", "tuple", "list"]) = True := eq_true (by decide)
theorem memT_3 : ("tuple" ∈ ["bool", "int", "str", "tuple", "list"]) = True := eq_true (by decide)
theorem memT_4 : ("list" ∈ ["bool", "int", "str", "tuple", "list"]) = True := eq_true (by decide)
local macro_rules | `(tactic| walk_at "ty") => `(tactic| simp only [isT_0, isT_1, isT_2, isT_3, isT_4, isT_5, isT_6, isT_7, isT_8, isT_9, isT_10, isT_11, isT_12, isT_13, isT_14, isT_15, isT_16, isT_17, isT_18, isT_19, isT_20, isT_21, isT_22, isT_23, isT_24, isT_25, isT_26, isT_27, isT_28, isT_29, memT_0, memT_1, memT_2, memT_3, memT_4, true_and, Bool.not_true, Bool.not_false])
def inR : D → Int → Int → Bool
  | .int i, lo, hi => decide (lo ≤ i) && decide (i ≤ hi)
  | _, _, _ => false
def sp_is_within : DSp := fun ds mu Φ _ => ∃ (v : D) (lo hi : Int), ds = [v, .int lo, .int hi] ∧ pl v = true ∧ Φ (.bl (inR v lo hi)) mu
def w_is_within : DWS := (wRet (wAndV (wB dIsi (wCons (wVar 0) (wCons (wC (.ty "int")) wNil))) (wAndV (wNotV (wB dIsi (wCons (wVar 0) (wCons (wC (.ty "bool")) wNil)))) (wChain (dCmpI fun i j => decide (i ≤ j)) (dCmpI fun i j => decide (i ≤ j)) (wVar 1) (wVar 0) (wVar 2)))))
theorem rd_is_within : ∀ ds mu Φ, sp_is_within ds mu Φ X0 → w_is_within (startD 3 ds) mu ⟨fun _ mu' => fin mu Φ .non mu', fin mu Φ, fun _ _ => False, fun _ _ => False⟩ X0 := by
  rintro _ mu Φ ⟨v, lo, hi, rfl, hv, h⟩
  unfold w_is_within
  cases v <;> first | (cases hv; done) | skip
  all_goals walk_at "dl"
  all_goals walk_at "ty"
  all_goals first | exact .inl h | skip
  rename_i i
  have h : Φ (.bl (decide (lo ≤ i) && decide (i ≤ hi))) mu := h
  by_cases h1 : lo ≤ i
  · rw [decide_eq_true h1] at h ⊢
    exact .inl h
  · rw [decide_eq_false h1] at h ⊢
    exact .inl h
def gcd1 : D → D → Bool
  | .int i, .int j => decide (Int.gcd i j = 1)
  | _, _ => false
def leS : D → Bool
  | .tup [.int i, .int j] => decide (0 < i) && decide (i ≤ j)
  | _ => false
def nnF : D → Bool
  | .tup [.int i, _] => decide (0 ≤ i)
  | _ => false
/-- a fraction as handed in -/
def isF : D → Bool
  | .tup [a, b] => inR a (-1000) 1000 && inR b 1 1000 && gcd1 a b
  | _ => false
def sp_is_fraction : DSp := fun ds mu Φ _ => ∃ v : D, ds = [v] ∧ pl v = true ∧ Φ (.bl (isF v)) mu
def w_is_fraction : DWS := (wSeq (wIfS (wOr (wNot (wTest (wB dIsi (wCons (wVar 0) (wCons (wC (.ty "tuple")) wNil))))) (wTest (wOp dNe (wB dLen (wCons (wVar 0) wNil)) (wC (.int 2))))) (wRet (wC (.bl false))) wNext)
    (wSeq (wIfS (wOr (wNot (wTest (wCall0 sp_is_within (wCons (wOp dIx (wVar 0) (wC (.int 0))) (wCons (wOp dSub (wC (.int 0)) (wC (.int 1000))) (wCons (wC (.int 1000)) wNil)))))) (wNot (wTest (wCall0 sp_is_within (wCons (wOp dIx (wVar 0) (wC (.int 1))) (wCons (wC (.int 1)) (wCons (wC (.int 1000)) wNil))))))) (wRet (wC (.bl false))) wNext)
    (wRet (wOp dEq (wCall0 sp_divisor (wCons (wOp dIx (wVar 0) (wC (.int 0))) (wCons (wOp dIx (wVar 0) (wC (.int 1))) wNil))) (wC (.int 1))))))
theorem inR_int {v : D} {lo hi : Int} (h : inR v lo hi = true) : ∃ i, v = .int i ∧ lo ≤ i ∧ i ≤ hi := by
  cases v <;> first | (cases h; done) | skip
  rename_i i
  unfold inR at h
  rw [Bool.and_eq_true, decide_eq_true_eq, decide_eq_true_eq] at h
  exact ⟨i, rfl, h.1, h.2⟩
theorem int_eq_2 (n : Nat) : ((n : Int) = 2) = (n = 2) := by rw [show (2 : Int) = ((2 : Nat) : Int) from rfl, Int.natCast_inj]
theorem rd_is_fraction : ∀ ds mu Φ, sp_is_fraction ds mu Φ X0 → w_is_fraction (startD 1 ds) mu ⟨fun _ mu' => fin mu Φ .non mu', fin mu Φ, fun _ _ => False, fun _ _ => False⟩ X0 := by
  rintro _ mu Φ ⟨v, rfl, hv, h⟩
  unfold w_is_fraction
  cases v <;> first | (cases hv; done) | skip
  all_goals walk_at "dl"
  all_goals walk_at "ty"
  all_goals try walk_at "dl"
  all_goals first | exact .inl h | skip
  rename_i xs
  match xs, h, hv with
  | [], h, hv => exact .inl h
  | [a], h, hv => exact .inl h
  | [a, b], h, hv =>
    have hv : (pl a && (pl b && true)) = true := hv
    simp only [Bool.and_eq_true] at hv
    walk_at "dl"
    rw [decide_eq_true (show ((2 : Nat) : Int) = 2 from rfl)]
    walk_at "dl"
    refine ⟨a, _, _, rfl, hv.1, ?_⟩
    have h : Φ (.bl (inR a (-1000) 1000 && inR b 1 1000 && gcd1 a b)) mu := h
    cases ha : inR a (-1000) 1000 with
    | false =>
      rw [show (0 - 1000 : Int) = -1000 from rfl, ha]
      rw [ha] at h
      walk_at "dl"
      exact .inl h
    | true =>
      rw [show (0 - 1000 : Int) = -1000 from rfl, ha]
      rw [ha] at h
      walk_at "dl"
      refine ⟨b, _, _, rfl, hv.2.1, ?_⟩
      cases hb : inR b 1 1000 with
      | false =>
        rw [hb] at h
        walk_at "dl"
        exact .inl h
      | true =>
        rw [hb] at h
        walk_at "dl"
        obtain ⟨i, rfl, _, _⟩ := inR_int ha
        obtain ⟨j, rfl, _, _⟩ := inR_int hb
        refine ⟨i, j, rfl, ?_⟩
        walk_at "dl"
        have h : Φ (.bl (decide (Int.gcd i j = 1))) mu := h
        rw [show decide (((Int.gcd i j : Nat) : Int) = 1) = decide (Int.gcd i j = 1) from decide_eq_decide.mpr (by omega)]
        exact .inl h
  | a :: b :: c :: r, h, hv =>
    walk_at "dl"
    rw [decide_eq_false (by omega)]
    walk_at "dl"
    exact .inl h
def isS (v : D) : Bool := isF v && leS v
theorem isF_form {v : D} (h : isF v = true) : ∃ i j : Int, v = .tup [.int i, .int j] ∧ -1000 ≤ i ∧ i ≤ 1000 ∧ 1 ≤ j ∧ j ≤ 1000 ∧ Int.gcd i j = 1 := by
  unfold isF at h
  split at h
  · rename_i a b
    rw [Bool.and_eq_true, Bool.and_eq_true] at h
    obtain ⟨i, rfl, i1, i2⟩ := inR_int h.1.1
    obtain ⟨j, rfl, j1, j2⟩ := inR_int h.1.2
    exact ⟨i, j, rfl, i1, i2, j1, j2, of_decide_eq_true h.2⟩
  · cases h
def onev (f : D → Bool) : DSp := fun ds mu Φ _ => ∃ v : D, ds = [v] ∧ pl v = true ∧ Φ (.bl (f v)) mu
abbrev sp_is_share : DSp := onev isS
def w_is_share : DWS := (wRet (wAndV (wCall0 sp_is_fraction (wCons (wVar 0) wNil)) (wChain (dCmpI fun i j => decide (i < j)) (dCmpI fun i j => decide (i ≤ j)) (wC (.int 0)) (wOp dIx (wVar 0) (wC (.int 0))) (wOp dIx (wVar 0) (wC (.int 1))))))
theorem rd_is_share : ∀ ds mu Φ, sp_is_share ds mu Φ X0 → w_is_share (startD 1 ds) mu ⟨fun _ mu' => fin mu Φ .non mu', fin mu Φ, fun _ _ => False, fun _ _ => False⟩ X0 := by
  rintro _ mu Φ ⟨v, rfl, hv, h⟩
  unfold w_is_share
  walk_at "dl"
  refine ⟨v, rfl, hv, ?_⟩
  unfold isS at h
  cases hf : isF v with
  | false =>
    rw [hf] at h
    walk_at "dl"
    exact .inl h
  | true =>
    rw [hf] at h
    walk_at "dl"
    obtain ⟨i, j, rfl, _⟩ := isF_form hf
    walk_at "dl"
    have h : Φ (.bl (decide (0 < i) && decide (i ≤ j))) mu := h
    by_cases h1 : 0 < i
    · rw [decide_eq_true h1] at h ⊢
      exact .inl h
    · rw [decide_eq_false h1] at h ⊢
      exact .inl h
def isHP : D → Bool
  | .tup [a, b] => isS a && isF b
  | _ => false
abbrev sp_is_head_pair : DSp := onev isHP
def w_is_head_pair : DWS := (wRet (wAndV (wB dIsi (wCons (wVar 0) (wCons (wC (.ty "tuple")) wNil))) (wAndV (wOp dEq (wB dLen (wCons (wVar 0) wNil)) (wC (.int 2))) (wAndV (wCall0 sp_is_share (wCons (wOp dIx (wVar 0) (wC (.int 0))) wNil)) (wCall0 sp_is_fraction (wCons (wOp dIx (wVar 0) (wC (.int 1))) wNil))))))
theorem rd_is_head_pair : ∀ ds mu Φ, sp_is_head_pair ds mu Φ X0 → w_is_head_pair (startD 1 ds) mu ⟨fun _ mu' => fin mu Φ .non mu', fin mu Φ, fun _ _ => False, fun _ _ => False⟩ X0 := by
  rintro _ mu Φ ⟨v, rfl, hv, h⟩
  unfold w_is_head_pair
  cases v <;> first | (cases hv; done) | skip
  all_goals walk_at "dl"
  all_goals walk_at "ty"
  all_goals try walk_at "dl"
  all_goals first | exact .inl h | skip
  rename_i xs
  match xs, h, hv with
  | [], h, hv => exact .inl h
  | [a], h, hv => exact .inl h
  | [a, b], h, hv =>
    have hv : (pl a && (pl b && true)) = true := hv
    simp only [Bool.and_eq_true] at hv
    walk_at "dl"
    rw [decide_eq_true (show ((2 : Nat) : Int) = 2 from rfl)]
    walk_at "dl"
    have h : Φ (.bl (isS a && isF b)) mu := h
    refine ⟨a, rfl, hv.1, ?_⟩
    cases ha : isS a with
    | false =>
      rw [ha] at h
      walk_at "dl"
      exact .inl h
    | true =>
      rw [ha] at h
      exact ⟨b, rfl, hv.2.1, .inl h⟩
  | a :: b :: c :: r, h, hv =>
    walk_at "dl"
    rw [decide_eq_false (by omega)]
    exact .inl h
def isTl : D → Bool
  | .tup [a, b, c, d] => isS a && isS b && isF c && isF d && nnF d
  | _ => false
abbrev sp_is_tail : DSp := onev isTl
def w_is_tail : DWS := (wSeq (wIfS (wOr (wNot (wTest (wB dIsi (wCons (wVar 0) (wCons (wC (.ty "tuple")) wNil))))) (wOr (wTest (wOp dNe (wB dLen (wCons (wVar 0) wNil)) (wC (.int 4)))) (wOr (wNot (wTest (wCall0 sp_is_share (wCons (wOp dIx (wVar 0) (wC (.int 0))) wNil)))) (wNot (wTest (wCall0 sp_is_share (wCons (wOp dIx (wVar 0) (wC (.int 1))) wNil))))))) (wRet (wC (.bl false))) wNext)
    (wRet (wAndV (wCall0 sp_is_fraction (wCons (wOp dIx (wVar 0) (wC (.int 2))) wNil)) (wAndV (wCall0 sp_is_fraction (wCons (wOp dIx (wVar 0) (wC (.int 3))) wNil)) (wOp (dCmpI fun i j => decide (j ≤ i)) (wOp dIx (wOp dIx (wVar 0) (wC (.int 3))) (wC (.int 0))) (wC (.int 0)))))))
theorem rd_is_tail : ∀ ds mu Φ, sp_is_tail ds mu Φ X0 → w_is_tail (startD 1 ds) mu ⟨fun _ mu' => fin mu Φ .non mu', fin mu Φ, fun _ _ => False, fun _ _ => False⟩ X0 := by
  rintro _ mu Φ ⟨v, rfl, hv, h⟩
  unfold w_is_tail
  cases v <;> first | (cases hv; done) | skip
  all_goals walk_at "dl"
  all_goals walk_at "ty"
  all_goals try walk_at "dl"
  all_goals first | exact .inl h | skip
  rename_i xs
  match xs, h, hv with
  | [], h, hv => exact .inl h
  | [a], h, hv => exact .inl h
  | [a, b], h, hv => exact .inl h
  | [a, b, c], h, hv => exact .inl h
  | [a, b, c, d], h, hv =>
    have hv : (pl a && (pl b && (pl c && (pl d && true)))) = true := hv
    simp only [Bool.and_eq_true] at hv
    walk_at "dl"
    rw [decide_eq_true (show ((4 : Nat) : Int) = 4 from rfl)]
    walk_at "dl"
    have h : Φ (.bl (isS a && isS b && isF c && isF d && nnF d)) mu := h
    refine ⟨a, rfl, hv.1, ?_⟩
    cases ha : isS a with
    | false =>
      rw [ha] at h
      walk_at "dl"
      exact .inl h
    | true =>
      rw [ha] at h
      walk_at "dl"
      refine ⟨b, rfl, hv.2.1, ?_⟩
      cases hb : isS b with
      | false =>
        rw [hb] at h
        walk_at "dl"
        exact .inl h
      | true =>
        rw [hb] at h
        walk_at "dl"
        refine ⟨c, rfl, hv.2.2.1, ?_⟩
        cases hc : isF c with
        | false =>
          rw [hc] at h
          walk_at "dl"
          exact .inl h
        | true =>
          rw [hc] at h
          walk_at "dl"
          refine ⟨d, rfl, hv.2.2.2.1, ?_⟩
          cases hd : isF d with
          | false =>
            rw [hd] at h
            walk_at "dl"
            exact .inl h
          | true =>
            rw [hd] at h
            obtain ⟨i, j, rfl, _⟩ := isF_form hd
            walk_at "dl"
            exact .inl h
  | a :: b :: c :: d :: e :: r, h, hv =>
    walk_at "dl"
    rw [decide_eq_false (by omega)]
    walk_at "dl"
    exact .inl h
def isHs : D → Bool
  | .tup hs => decide (hs.length ≤ 4) && hs.all isHP
  | _ => false
def isPl : D → Bool
  | .tup [a, t] => isHs a && isTl t
  | _ => false
abbrev sp_is_plan_value : DSp := onev isPl
def w_is_plan_value : DWS := (wSeq (wIfS (wOr (wNot (wTest (wB dIsi (wCons (wVar 0) (wCons (wC (.ty "tuple")) wNil))))) (wOr (wTest (wOp dNe (wB dLen (wCons (wVar 0) wNil)) (wC (.int 2)))) (wNot (wTest (wB dIsi (wCons (wOp dIx (wVar 0) (wC (.int 0))) (wCons (wC (.ty "tuple")) wNil))))))) (wRet (wC (.bl false))) wNext)
    (wRet (wAndV (wOp (dCmpI fun i j => decide (i ≤ j)) (wB dLen (wCons (wOp dIx (wVar 0) (wC (.int 0))) wNil)) (wC (.int 4))) (wAndV (wB dAll (wCons (wLc (wItT (wOp dIx (wVar 0) (wC (.int 0)))) (dgName 1) wYes (wCall0 sp_is_head_pair (wCons (wVar 1) wNil)) [1]) wNil)) (wCall0 sp_is_tail (wCons (wOp dIx (wVar 0) (wC (.int 1))) wNil))))))
theorem hp_go (mu : MS) (ρ : EnvD) : ∀ (xs acc : List D) (Ψ : List D → MS → Prop), plL xs = true → Ψ (acc ++ xs.map fun x => D.bl (isHP x)) mu →
    wLcGo (dgName 1) wYes (wCall0 sp_is_head_pair (wCons (wVar 1) wNil)) [ρ0, none] [1] acc xs mu Ψ
  | [], acc, Ψ, hp, h => by
    unfold wLcGo
    simpa using h
  | x :: xs, acc, Ψ, hp, h => by
    unfold plL at hp
    rw [Bool.and_eq_true] at hp
    unfold wLcGo wYes
    simp only [wipeD]
    walk_at "dl"
    refine ⟨x, rfl, hp.1, hp_go mu ρ xs _ Ψ hp.2 ?_⟩
    rw [List.append_assoc]
    exact h
theorem rd_is_plan_value : ∀ ds mu Φ, sp_is_plan_value ds mu Φ X0 → w_is_plan_value (startD 2 ds) mu ⟨fun _ mu' => fin mu Φ .non mu', fin mu Φ, fun _ _ => False, fun _ _ => False⟩ X0 := by
  rintro _ mu Φ ⟨v, rfl, hv, h⟩
  unfold w_is_plan_value
  cases v <;> first | (cases hv; done) | skip
  all_goals walk_at "dl"
  all_goals walk_at "ty"
  all_goals try walk_at "dl"
  all_goals first | exact .inl h | skip
  rename_i xs
  match xs, h, hv with
  | [], h, hv => exact .inl h
  | [a], h, hv => exact .inl h
  | [a, b], h, hv =>
    have hv : (pl a && (pl b && true)) = true := hv
    simp only [Bool.and_eq_true] at hv
    walk_at "dl"
    rw [decide_eq_true (show ((2 : Nat) : Int) = 2 from rfl)]
    walk_at "dl"
    cases a with
    | tup hs =>
      walk_at "dl"
      walk_at "ty"
      walk_at "dl"
      have h : Φ (.bl (decide (hs.length ≤ 4) && hs.all isHP && isTl b)) mu := h
      by_cases hl : hs.length ≤ 4
      · rw [decide_eq_true hl] at h
        rw [decide_eq_true (show (hs.length : Int) ≤ 4 by omega)]
        unfold wLc wItT
        walk_at "dl"
        refine ⟨by omega, hp_go mu [] hs [] _ hv.1 ?_⟩
        rw [List.nil_append]
        refine ⟨hs.map isHP, by rw [List.map_map]; rfl, ?_⟩
        rw [List.all_map] 
        have e : hs.all (id ∘ isHP) = hs.all isHP := rfl
        rw [e]
        cases ha : hs.all isHP with
        | false =>
          rw [ha] at h
          walk_at "dl"
          exact .inl h
        | true =>
          rw [ha] at h
          walk_at "dl"
          exact ⟨b, rfl, hv.2.1, .inl h⟩
      · rw [decide_eq_false hl] at h
        rw [decide_eq_false (show ¬ (hs.length : Int) ≤ 4 by omega)]
        exact .inl h
    | _ => first
      | (cases hv.1; done)
      | (walk_at "dl"; walk_at "ty"; first | exact .inl h | (walk_at "dl"; exact .inl h))
  | a :: b :: c :: r, h, hv =>
    walk_at "dl"
    rw [decide_eq_false (by omega)]
    walk_at "dl"
    exact .inl h
end DL
set_option maxHeartbeats 4000000
/-! SPB0: plans as rationals. -/
namespace DL
open PySem PySem.Spec PyProof.Rows L2
structure Pl where
  hd : List (Rat × Rat)
  c : Rat
  l : Rat
  g : Rat
  m : Rat
def prD (x : Rat × Rat) : D := .tup [fr x.1, fr x.2]
def plD (p : Pl) : D := .tup [.tup (p.hd.map prD), .tup [fr p.c, fr p.l, fr p.g, fr p.m]]
def Bd (q : Rat) : Prop := q.num.natAbs ≤ 1000 ∧ q.den ≤ 1000
structure PlOk (p : Pl) : Prop where
  len : p.hd.length ≤ 4
  hd : ∀ x ∈ p.hd, Ch x.1 ∧ Bd x.1 ∧ Bd x.2
  c : Ch p.c ∧ Bd p.c
  l : Ch p.l ∧ Bd p.l
  g : Bd p.g
  m : 0 ≤ p.m ∧ Bd p.m
theorem gcd_fr (q : Rat) : Int.gcd q.num (q.den : Int) = 1 := by
  have := q.reduced
  unfold Int.gcd
  rw [Int.natAbs_natCast]
  exact this
theorem isF_fr {q : Rat} (h : Bd q) : isF (fr q) = true := by
  have h1 := h.1
  have h2 := h.2
  have h3 := den_pos' q
  show (inR (.int q.num) (-1000) 1000 && inR (.int (q.den : Int)) 1 1000 && gcd1 (.int q.num) (.int (q.den : Int))) = true
  unfold inR gcd1
  dsimp only
  rw [gcd_fr, decide_eq_true (show (-1000 : Int) ≤ q.num by omega), decide_eq_true (show q.num ≤ 1000 by omega), decide_eq_true (show (1 : Int) ≤ q.den by omega), decide_eq_true (show (q.den : Int) ≤ 1000 by omega)]
  rfl
theorem isF_of {v : D} (h : isF v = true) : ∃ q : Rat, v = fr q ∧ Bd q := by
  obtain ⟨i, j, rfl, h1, h2, h3, h4, h5⟩ := isF_form h
  have hj : ((j.toNat : Nat) : Int) = j := Int.toNat_of_nonneg (by omega)
  have hr : i.natAbs.Coprime j.toNat := by
    unfold Int.gcd at h5
    have : j.natAbs = j.toNat := by omega
    rw [this] at h5
    exact h5
  refine ⟨⟨i, j.toNat, by omega, hr⟩, ?_, ⟨by show i.natAbs ≤ 1000; omega, by show j.toNat ≤ 1000; omega⟩⟩
  unfold fr
  dsimp only
  rw [hj]
theorem pos_num {q : Rat} : 0 < q ↔ 0 < q.num := by
  constructor
  · exact num_pos_of
  · intro h
    rcases Rat.le_iff_lt_or_eq.mp (Rat.num_nonneg.mp (Int.le_of_lt h)) with z | z
    · exact z
    · rw [← z] at h
      exact absurd h (by decide)
theorem le_one {q : Rat} : q ≤ 1 ↔ q.num ≤ (q.den : Int) := by
  rw [Rat.le_iff]
  show q.num * ((1 : Nat) : Int) ≤ 1 * (q.den : Int) ↔ _
  constructor <;> intro h <;> omega
theorem isS_fr {q : Rat} (h : Bd q) (hc : Ch q) : isS (fr q) = true := by
  unfold isS
  rw [isF_fr h]
  show (decide (0 < q.num) && decide (q.num ≤ (q.den : Int))) = true
  rw [decide_eq_true (pos_num.mp hc.1), decide_eq_true (le_one.mp hc.2)]
  rfl
theorem isS_of {v : D} (h : isS v = true) : ∃ q : Rat, v = fr q ∧ Bd q ∧ Ch q := by
  unfold isS at h
  rw [Bool.and_eq_true] at h
  obtain ⟨q, rfl, hb⟩ := isF_of h.1
  have h2 : (decide (0 < q.num) && decide (q.num ≤ (q.den : Int))) = true := h.2
  rw [Bool.and_eq_true, decide_eq_true_eq, decide_eq_true_eq] at h2
  exact ⟨q, rfl, hb, pos_num.mpr h2.1, le_one.mpr h2.2⟩
theorem isHP_of {v : D} (h : isHP v = true) : ∃ x : Rat × Rat, v = prD x ∧ Ch x.1 ∧ Bd x.1 ∧ Bd x.2 := by
  unfold isHP at h
  split at h
  · rw [Bool.and_eq_true] at h
    obtain ⟨q, rfl, h1, h2⟩ := isS_of h.1
    obtain ⟨r, rfl, h3⟩ := isF_of h.2
    exact ⟨(q, r), rfl, h2, h1, h3⟩
  · cases h
theorem isHs_of : ∀ {hs : List D}, hs.all isHP = true → ∃ xs : List (Rat × Rat), hs = xs.map prD ∧ ∀ x ∈ xs, Ch x.1 ∧ Bd x.1 ∧ Bd x.2
  | [], _ => ⟨[], rfl, fun x hx => by cases hx⟩
  | v :: r, h => by
    rw [List.all_cons, Bool.and_eq_true] at h
    obtain ⟨x, rfl, hx⟩ := isHP_of h.1
    obtain ⟨xs, rfl, hxs⟩ := isHs_of h.2
    exact ⟨x :: xs, rfl, fun y hy => by
      rcases List.mem_cons.mp hy with e | e
      · rw [e]; exact hx
      · exact hxs y e⟩
theorem isPl_of {v : D} (h : isPl v = true) : ∃ p : Pl, v = plD p ∧ PlOk p := by
  unfold isPl at h
  split at h
  · rename_i a t
    rw [Bool.and_eq_true] at h
    obtain ⟨h1, h2⟩ := h
    unfold isHs at h1
    split at h1
    · rename_i hs
      rw [Bool.and_eq_true, decide_eq_true_eq] at h1
      obtain ⟨xs, rfl, hxs⟩ := isHs_of h1.2
      unfold isTl at h2
      split at h2
      · simp only [Bool.and_eq_true] at h2
        obtain ⟨⟨⟨⟨t1, t2⟩, t3⟩, t4⟩, t5⟩ := h2
        obtain ⟨c, rfl, c1, c2⟩ := isS_of t1
        obtain ⟨l, rfl, l1, l2⟩ := isS_of t2
        obtain ⟨g, rfl, g1⟩ := isF_of t3
        obtain ⟨m, rfl, m1⟩ := isF_of t4
        have t5 : decide (0 ≤ m.num) = true := t5
        exact ⟨⟨xs, c, l, g, m⟩, rfl, ⟨by have := h1.1; rw [List.length_map] at this; exact this, hxs, ⟨c2, c1⟩, ⟨l2, l1⟩, g1, ⟨Rat.num_nonneg.mp (of_decide_eq_true t5), m1⟩⟩⟩
      · cases h2
    · cases h1
  · cases h
theorem isPl_plD {p : Pl} (h : PlOk p) : isPl (plD p) = true := by
  show (isHs (.tup (p.hd.map prD)) && isTl (.tup [fr p.c, fr p.l, fr p.g, fr p.m])) = true
  have h1 : isHs (.tup (p.hd.map prD)) = true := by
    show (decide ((p.hd.map prD).length ≤ 4) && (p.hd.map prD).all isHP) = true
    rw [List.length_map, decide_eq_true h.len, Bool.true_and, List.all_map, List.all_eq_true]
    intro x hx
    obtain ⟨a, b, c⟩ := h.hd x hx
    show (isS (fr x.1) && isF (fr x.2)) = true
    rw [isS_fr b a, isF_fr c]
    rfl
  have h2 : isTl (.tup [fr p.c, fr p.l, fr p.g, fr p.m]) = true := by
    show (isS (fr p.c) && isS (fr p.l) && isF (fr p.g) && isF (fr p.m) && nnF (fr p.m)) = true
    rw [isS_fr h.c.2 h.c.1, isS_fr h.l.2 h.l.1, isF_fr h.g, isF_fr h.m.2]
    show decide (0 ≤ p.m.num) = true
    exact decide_eq_true (Rat.num_nonneg.mpr h.m.1)
  rw [h1, h2]
  rfl
theorem pl_fr (q : Rat) : pl (fr q) = true := rfl
theorem plL_map {α : Type} {f : α → D} (h : ∀ x, pl (f x) = true) : ∀ xs : List α, plL (xs.map f) = true
  | [] => rfl
  | x :: xs => by
    rw [List.map_cons]
    unfold plL
    rw [h x, plL_map h xs]
    rfl
theorem pl_plD (p : Pl) : pl (plD p) = true := by
  show (plL (p.hd.map prD) && (pl (.tup [fr p.c, fr p.l, fr p.g, fr p.m]) && true)) = true
  rw [plL_map (fun x => rfl) p.hd]
  rfl
/-! ### steps -/
def ch (p : Pl) (i : Nat) : Rat := match p.hd[i]? with | some x => x.1 | none => p.c * p.l ^ (i - p.hd.length)
def ga (p : Pl) (i : Nat) : Rat := match p.hd[i]? with | some x => x.2 | none => p.g * p.m ^ (i - p.hd.length)
theorem ch_pow {q : Rat} (h : Ch q) : ∀ n : Nat, Ch (q ^ n)
  | 0 => by rw [Rat.pow_zero]; exact ⟨by decide, Rat.le_refl⟩
  | n + 1 => by
    rw [Rat.pow_succ]
    obtain ⟨a, b⟩ := ch_pow h n
    refine ⟨Rat.mul_pos a h.1, ?_⟩
    have := Rat.mul_le_mul_of_nonneg_left h.2 (Rat.le_of_lt a)
    rw [Rat.mul_one] at this
    exact Rat.le_trans this b
theorem ch_mul {p q : Rat} (a : Ch p) (b : Ch q) : Ch (p * q) := by
  refine ⟨Rat.mul_pos a.1 b.1, ?_⟩
  have := Rat.mul_le_mul_of_nonneg_left b.2 (Rat.le_of_lt a.1)
  rw [Rat.mul_one] at this
  exact Rat.le_trans this a.2
theorem ch_ok {p : Pl} (h : PlOk p) (i : Nat) : Ch (ch p i) := by
  unfold ch
  cases e : p.hd[i]? with
  | some x => exact (h.hd x (List.mem_of_getElem? e)).1
  | none => exact ch_mul h.c.1 (ch_pow h.l.1 _)
def prodN : List Nat → Nat
  | [] => 1
  | n :: r => n * prodN r
theorem dvd_prodN {l : List Nat} {n : Nat} (h : n ∈ l) : n ∣ prodN l := by
  induction l with
  | nil => cases h
  | cons x r ih =>
    rcases List.mem_cons.mp h with e | e
    · subst e
      exact Nat.dvd_mul_right _ _
    · exact Nat.dvd_trans (ih e) (Nat.dvd_mul_left _ _)
theorem prodN_le {l : List Nat} {b : Nat} (h : ∀ n ∈ l, n ≤ b) : prodN l ≤ b ^ l.length := by
  induction l with
  | nil => exact Nat.le_refl _
  | cons x r ih =>
    show x * prodN r ≤ b ^ (r.length + 1)
    rw [Nat.pow_succ, Nat.mul_comm]
    exact Nat.mul_le_mul (ih fun n hn => h n (List.mem_cons_of_mem _ hn)) (h x List.mem_cons_self)
theorem prodN_pos {l : List Nat} (h : ∀ n ∈ l, 0 < n) : 0 < prodN l := by
  induction l with
  | nil => decide
  | cons x r ih => exact Nat.mul_pos (h x List.mem_cons_self) (ih fun n hn => h n (List.mem_cons_of_mem _ hn))
/-- what all chances up to level 20 are whole multiples of the inverse of -/
def bas (p : Pl) : Nat := prodN (p.hd.map fun x => x.1.den) * (p.c.den * p.l.den ^ 20)
theorem bas_pos (p : Pl) : 0 < bas p := by
  refine Nat.mul_pos (prodN_pos fun n hn => ?_) (Nat.mul_pos (den_pos' _) (Nat.pow_pos (den_pos' _)))
  obtain ⟨x, _, rfl⟩ := List.mem_map.mp hn
  exact den_pos' _
theorem pow_le_1000 {n j : Nat} (h : j ≤ n) : 1000 ^ j ≤ 1000 ^ n := Nat.pow_le_pow_right (by decide) h
theorem bas_le {p : Pl} (h : PlOk p) : bas p ≤ 1000 ^ 25 := by
  have h1 : prodN (p.hd.map fun x => x.1.den) ≤ 1000 ^ 4 := by
    refine Nat.le_trans (prodN_le (b := 1000) fun n hn => ?_) (by rw [List.length_map]; exact pow_le_1000 h.len)
    obtain ⟨x, hx, rfl⟩ := List.mem_map.mp hn
    exact (h.hd x hx).2.1.2
  have h2 : p.c.den * p.l.den ^ 20 ≤ 1000 * 1000 ^ 20 := Nat.mul_le_mul h.c.2.2 (Nat.pow_le_pow_left h.l.2.2 20)
  exact Nat.le_trans (Nat.mul_le_mul h1 h2) (by decide +kernel)
theorem bas_ok {p : Pl} {i : Nat} (hi : i ≤ 20) : IsM (bas p) (ch p i) := by
  unfold ch
  cases e : p.hd[i]? with
  | some x =>
    refine isM_dvd (isM_den x.1) (Nat.dvd_trans (dvd_prodN (List.mem_map.mpr ⟨x, List.mem_of_getElem? e, rfl⟩)) (Nat.dvd_mul_right _ _))
  | none =>
    have h1 : IsM (p.l.den ^ (i - p.hd.length)) (p.l ^ (i - p.hd.length)) := by
      have := isM_den (p.l ^ (i - p.hd.length))
      rw [Rat.den_pow] at this
      exact this
    have h2 := isM_mul (isM_den p.c) h1
    refine isM_dvd h2 (Nat.dvd_trans (Nat.mul_dvd_mul_left _ (Nat.pow_dvd_pow _ (by omega))) (Nat.dvd_mul_left _ _))
/-! ### sizes -/
theorem fit_M {n M N : Nat} {q : Rat} (hM : 0 < M) (h : IsM M q) (h1 : M < 2 ^ n) (h0 : 0 ≤ q) (hN : q ≤ (N : Rat)) (h2 : N * M < 2 ^ n) : Fit n q := by
  obtain ⟨z, e, hz⟩ := isM_eq hM h
  have z0 : 0 ≤ z := by
    have : (0 : Rat) ≤ (z : Rat) := by
      rw [← hz]
      exact Rat.mul_nonneg h0 Rat.natCast_nonneg
    exact Rat.intCast_nonneg.mp this
  have z1 : z ≤ (N * M : Nat) := by
    have : (z : Rat) ≤ (((N * M : Nat) : Int) : Rat) := by
      rw [← hz]
      have e3 : (((N * M : Nat) : Int) : Rat) = (N : Rat) * (M : Rat) := by
        show ((N * M : Nat) : Rat) = _
        rw [Rat.natCast_mul]
      rw [e3]
      exact Rat.mul_le_mul_of_nonneg_right hN Rat.natCast_nonneg
    exact Rat.intCast_le_intCast.mp this
  have d1 : q.den ≤ M := by
    rw [e, Rat.den_mkRat, if_neg (by omega)]
    exact Nat.div_le_self _ _
  have d2 : q.num.natAbs ≤ z.natAbs := by
    rw [e, Rat.num_mkRat, if_neg (by omega)]
    exact Int.natAbs_ediv_le_natAbs _ _
  exact ⟨by omega, by omega⟩
theorem fit_pr {n M : Nat} {q : Rat} (hM : 0 < M) (h : IsM M q) (h1 : M < 2 ^ n) (h0 : 0 ≤ q) (hN : q ≤ 1) : Fit n q :=
  fit_M (N := 1) hM h h1 h0 hN (by rw [Nat.one_mul]; exact h1)
theorem fit_bd {q : Rat} (h : Bd q) : Fit 10 q := ⟨by have := h.2; omega, by have := h.1; omega⟩
theorem fit_pow {q : Rat} (h : Bd q) (j : Nat) : Fit (10 * j + 1) (q ^ j) := by
  have e : (2 : Nat) ^ (10 * j + 1) = 2 * 1024 ^ j := by rw [Nat.pow_succ, Nat.pow_mul, Nat.mul_comm]
  have h0 : 0 < 1024 ^ j := Nat.pow_pos (by decide)
  refine ⟨?_, ?_⟩
  · rw [Rat.den_pow, e]
    have : q.den ^ j ≤ 1024 ^ j := Nat.pow_le_pow_left (by have := h.2; omega) j
    omega
  · rw [Rat.num_pow, e, Int.natAbs_pow]
    have : q.num.natAbs ^ j ≤ 1024 ^ j := Nat.pow_le_pow_left (by have := h.1; omega) j
    omega
end DL
set_option maxHeartbeats 4000000
/-! SPB1: plans: the promises, the readings. -/
namespace DL
open PySem PySem.Spec PyProof.Rows L2
local macro_rules | `(tactic| walk_at "dl") => `(tactic| simp only [wSeq, wAsg, wRet, wVar, wC, wOp, wUn, wTest, wChain, wTru, wAnd, wOr, wNot, wAndV, wOrV, wNotV, wIf, wNil, wCons, wTup, wLst, wLstM, wCall0, wCall, wRaise, wB, wSl, wPart, wNoPart, wNext, wDrop, wIfS, wPar, wAsgG, wSetI, wApp, dgName, dgTup, dgCons, dgNil, gt, List.set, dAdd, dSub, dMul, dFdiv, dMod, dPow, dNeg, dCmpI, dEq, dNe, dIsN, dNotN, isN, dLen, dIsi, tyD, dAbs, dMax, dMin, dInt, dBool, dTuple, dList, dIx, dSl, atI_0, atI_1, atI_2, atI_3, eqd_int, okd_int,
  List.getElem?_cons_zero, List.getElem?_cons_succ, List.length_cons, List.length_nil, startD, List.map_cons, List.map_nil, List.cons_append, List.nil_append, List.append_nil, List.replicate, List.replicate_zero, List.replicate_succ, Nat.sub_self, if_true, if_false, Bool.false_eq_true, ite_true, ite_false, reduceIte, true_and, and_true, decide_true, decide_false, Bool.not_true, Bool.not_false, Nat.reduceSub, Nat.reduceAdd])
local macro_rules | `(tactic| walk_at "ty") => `(tactic| simp only [isT_0, isT_1, isT_2, isT_3, isT_4, isT_5, isT_6, isT_7, isT_8, isT_9, isT_10, isT_11, isT_12, isT_13, isT_14, isT_15, isT_16, isT_17, isT_18, isT_19, isT_20, isT_21, isT_22, isT_23, isT_24, isT_25, isT_26, isT_27, isT_28, isT_29, memT_0, memT_1, memT_2, memT_3, memT_4, true_and, Bool.not_true, Bool.not_false])
/-! ### needs -/
def sp_need_plan (mg : Str → Option Value) : DSp := fun ds mu Φ Ξ => ∃ v : D, ds = [v] ∧ pl v = true ∧ (isPl v = true → Φ .non mu) ∧ (isPl v = false → Ξ (cl mg "InvalidPlan") [] mu)
def w_need_plan (mg : Str → Option Value) : DWS := (wIfS (wNot (wTest (wCall0 sp_is_plan_value (wCons (wVar 0) wNil)))) (wRaise (cl mg "InvalidPlan")) wNext)
theorem rd_need_plan (mg : Str → Option Value) : ∀ ds mu Φ Ξ, sp_need_plan mg ds mu Φ Ξ → w_need_plan mg (startD 1 ds) mu ⟨fun _ mu' => fin mu Φ .non mu', fin mu Φ, fun _ _ => False, fun _ _ => False⟩ (finX mu Ξ) := by
  rintro _ mu Φ Ξ ⟨v, rfl, hv, h1, h2⟩
  unfold w_need_plan
  walk_at "dl"
  refine ⟨v, rfl, hv, ?_⟩
  cases hp : isPl v with
  | true => exact .inl (h1 hp)
  | false => exact .inl (h2 hp)
def sp_need_level (mg : Str → Option Value) : DSp := fun ds mu Φ Ξ => ∃ v : D, ds = [v] ∧ pl v = true ∧ (inR v 0 16 = true → Φ .non mu) ∧ (inR v 0 16 = false → Ξ (cl mg "InvalidLevel") [] mu)
def w_need_level (mg : Str → Option Value) : DWS := (wIfS (wNot (wTest (wCall0 sp_is_within (wCons (wVar 0) (wCons (wC (.int 0)) (wCons (wC (.int 16)) wNil)))))) (wRaise (cl mg "InvalidLevel")) wNext)
theorem rd_need_level (mg : Str → Option Value) : ∀ ds mu Φ Ξ, sp_need_level mg ds mu Φ Ξ → w_need_level mg (startD 1 ds) mu ⟨fun _ mu' => fin mu Φ .non mu', fin mu Φ, fun _ _ => False, fun _ _ => False⟩ (finX mu Ξ) := by
  rintro _ mu Φ Ξ ⟨v, rfl, hv, h1, h2⟩
  unfold w_need_level
  walk_at "dl"
  refine ⟨v, 0, 16, rfl, hv, ?_⟩
  cases hp : inR v 0 16 with
  | true => exact .inl (h1 hp)
  | false => exact .inl (h2 hp)
def sp_need_count (mg : Str → Option Value) : DSp := fun ds mu Φ Ξ => ∃ (v : D) (m : Int), ds = [v, .int m] ∧ pl v = true ∧ (inR v 0 m = true → Φ .non mu) ∧ (inR v 0 m = false → Ξ (cl mg "InvalidCount") [] mu)
def w_need_count (mg : Str → Option Value) : DWS := (wIfS (wNot (wTest (wCall0 sp_is_within (wCons (wVar 0) (wCons (wC (.int 0)) (wCons (wVar 1) wNil)))))) (wRaise (cl mg "InvalidCount")) wNext)
theorem rd_need_count (mg : Str → Option Value) : ∀ ds mu Φ Ξ, sp_need_count mg ds mu Φ Ξ → w_need_count mg (startD 2 ds) mu ⟨fun _ mu' => fin mu Φ .non mu', fin mu Φ, fun _ _ => False, fun _ _ => False⟩ (finX mu Ξ) := by
  rintro _ mu Φ Ξ ⟨v, m, rfl, hv, h1, h2⟩
  unfold w_need_count
  walk_at "dl"
  refine ⟨v, 0, m, rfl, hv, ?_⟩
  cases hp : inR v 0 m with
  | true => exact .inl (h1 hp)
  | false => exact .inl (h2 hp)
/-! ### steps -/
def stD (p : Pl) (i : Nat) : D := .tup [fr (ch p i), fr (ga p i)]
def sp_step_of : DSp := fun ds mu Φ _ => ∃ (p : Pl) (n : Nat), ds = [plD p, .int (n : Int)] ∧ PlOk p ∧ n ≤ 100 ∧ Φ (stD p n) mu
def w_step_of : DWS := (wSeq (wAsgG (dgTup 2 (dgCons (dgName 2) (dgCons (dgName 3) dgNil))) (wVar 0))
    (wSeq (wIfS (wTest (wOp (dCmpI fun i j => decide (i < j)) (wVar 1) (wB dLen (wCons (wVar 2) wNil)))) (wRet (wOp dIx (wVar 2) (wVar 1))) wNext)
    (wSeq (wAsg 4 (wOp dSub (wVar 1) (wB dLen (wCons (wVar 2) wNil))))
    (wRet (wTup (wCons (wCall0 sp_times (wCons (wOp dIx (wVar 3) (wC (.int 0))) (wCons (wCall0 sp_power (wCons (wOp dIx (wVar 3) (wC (.int 1))) (wCons (wVar 4) wNil))) wNil))) (wCons (wCall0 sp_times (wCons (wOp dIx (wVar 3) (wC (.int 2))) (wCons (wCall0 sp_power (wCons (wOp dIx (wVar 3) (wC (.int 3))) (wCons (wVar 4) wNil))) wNil))) wNil)))))))
theorem fit_pw {q : Rat} (h : Bd q) {n : Nat} (hn : n ≤ 100) : ∀ j, j ≤ n → Fit 4400 (q ^ j) := fun j hj => (fit_pow h j).mono (by omega)
theorem rd_step_of : ∀ ds mu Φ, sp_step_of ds mu Φ X0 → w_step_of (startD 5 ds) mu ⟨fun _ mu' => fin mu Φ .non mu', fin mu Φ, fun _ _ => False, fun _ _ => False⟩ X0 := by
  rintro _ mu Φ ⟨p, n, rfl, hp, hn, h⟩
  unfold w_step_of plD
  walk_at "dl"
  rw [List.length_map]
  cases e : p.hd[n]? with
  | some x =>
    have hl := (List.getElem?_eq_some_iff.mp e).1
    rw [if_pos (decide_eq_true (show (n : Int) < (p.hd.length : Int) by omega)), atI_n, List.getElem?_map, e]
    dsimp only [Option.map]
    refine .inl ?_
    unfold stD ch ga at h
    rw [e] at h
    exact h
  | none =>
    have hl := List.getElem?_eq_none_iff.mp e
    rw [if_neg (by rw [decide_eq_false (show ¬ (n : Int) < (p.hd.length : Int) by omega)]; exact Bool.false_ne_true)]
    have ef : (n : Int) - (p.hd.length : Int) = ((n - p.hd.length : Nat) : Int) := by omega
    rw [ef]
    refine ⟨_, _, rfl, by omega, (fit_bd hp.l.2).mono (by decide), fit_pw hp.l.2 (by omega), ?_⟩
    refine ⟨_, _, rfl, (fit_bd hp.c.2).mono (by decide), fit_pw hp.l.2 (n := n - p.hd.length) (by omega) _ (Nat.le_refl _), ?_⟩
    refine ⟨_, _, rfl, by omega, (fit_bd hp.m.2).mono (by decide), fit_pw hp.m.2 (by omega), ?_⟩
    refine ⟨_, _, rfl, (fit_bd hp.g).mono (by decide), fit_pw hp.m.2 (n := n - p.hd.length) (by omega) _ (Nat.le_refl _), .inl ?_⟩
    unfold stD ch ga at h
    rw [e] at h
    exact h
/-! ### a count -/
/-- in [0, 1], a whole multiple of 1/M -/
def Gd (M : Nat) (q : Rat) : Prop := 0 ≤ q ∧ q ≤ 1 ∧ IsM M q
theorem Gd.fit {M : Nat} {q : Rat} (h : Gd M q) (hM : 0 < M) (hb : M < 2 ^ 4400) : Fit 4400 q := fit_pr hM h.2.2 hb h.1 h.2.1
def sp_led_on : DSp := fun ds mu Φ _ => ∃ (p : Pl) (qs : List Rat) (M : Nat), ds = [plD p, .lst (qs.map fr)] ∧ PlOk p ∧ qs.length ≤ 20 ∧ 0 < M ∧ M * bas p < 2 ^ 4400 ∧ (∀ q ∈ qs, Gd M q) ∧ Φ (.lst ((led (ch p) 0 0 qs).map fr)) mu
def w_led_on : DWS := (wSeq (wAsg 2 (wOp dMulM (wLst (wCons (wTup (wCons (wC (.int 0)) (wCons (wC (.int 1)) wNil))) wNil)) (wOp dAdd (wB dLen (wCons (wVar 1) wNil)) (wC (.int 1)))))
    (wSeq (wFor (wEn (wCons (wVar 1) wNil)) (dgTup 2 (dgCons (dgName 3) (dgCons (dgName 4) dgNil))) (wSeq (wAsg 5 (wCall0 sp_times (wCons (wVar 4) (wCons (wOp dIx (wCall0 sp_step_of (wCons (wVar 0) (wCons (wVar 3) wNil))) (wC (.int 0))) wNil))))
    (wSeq (wSetI (wCall0 sp_plus (wCons (wOp dIx (wVar 2) (wVar 3)) (wCons (wCall0 sp_minus (wCons (wVar 4) (wCons (wVar 5) wNil))) wNil))) (wVar 2) (wVar 3))
    (wSetI (wCall0 sp_plus (wCons (wOp dIx (wVar 2) (wOp dAdd (wVar 3) (wC (.int 1)))) (wCons (wVar 5) wNil))) (wVar 2) (wOp dAdd (wVar 3) (wC (.int 1)))))))
    (wFrz 2 (wRet (wVar 2)))))
theorem set_last {α : Type} (xs : List α) (a b : α) : (xs ++ [a]).set xs.length b = xs ++ [b] := by
  rw [List.set_append_right _ _ (Nat.le_refl _), Nat.sub_self]
  rfl
theorem get_last {α : Type} (xs : List α) (a : α) : (xs ++ [a])[xs.length]? = some a := by
  rw [List.getElem?_append_right (Nat.le_refl _), Nat.sub_self]
  rfl
theorem ixN_n {n i : Nat} (h : i < n) : ixN n (i : Int) = some i := by
  unfold ixN
  rw [if_pos (by omega), if_pos (by omega)]
  rfl
theorem isM_of_mul {M B : Nat} {q : Rat} (h : IsM M q) : IsM (M * B) q := isM_dvd h (Nat.dvd_mul_right _ _)
theorem led_go (p : Pl) (hp : PlOk p) (M : Nat) (hM : 0 < M) (hb : M * bas p < 2 ^ 4400) (mu : MS) (Δ : DEnds) (now : D) : ∀ (qs done : List Rat) (a : Rat) (r3 r4 r5 : Option D), done.length + qs.length ≤ 20 → Gd (M * bas p) a → (∀ q ∈ qs, Gd M q) →
    (∀ r3 r4 r5, Δ.nx [some (plD p), some now, some (.loc mu.length), r3, r4, r5] (mu ++ [.lst ((done ++ led (ch p) done.length a qs).map fr)])) →
    wForGo (dgTup 2 (dgCons (dgName 3) (dgCons (dgName 4) dgNil))) (wSeq (wAsg 5 (wCall0 sp_times (wCons (wVar 4) (wCons (wOp dIx (wCall0 sp_step_of (wCons (wVar 0) (wCons (wVar 3) wNil))) (wC (.int 0))) wNil))))
    (wSeq (wSetI (wCall0 sp_plus (wCons (wOp dIx (wVar 2) (wVar 3)) (wCons (wCall0 sp_minus (wCons (wVar 4) (wCons (wVar 5) wNil))) wNil))) (wVar 2) (wVar 3))
    (wSetI (wCall0 sp_plus (wCons (wOp dIx (wVar 2) (wOp dAdd (wVar 3) (wC (.int 1)))) (wCons (wVar 5) wNil))) (wVar 2) (wOp dAdd (wVar 3) (wC (.int 1)))))) (enD done.length (qs.map fr))
      [some (plD p), some now, some (.loc mu.length), r3, r4, r5] (mu ++ [.lst ((done ++ a :: List.replicate qs.length 0).map fr)]) Δ X0
  | [], done, a, r3, r4, r5, hl, ha, hq, h => h r3 r4 r5
  | q :: qs, done, a, r3, r4, r5, hl, ha, hq, h => by
    rw [List.length_cons] at hl
    have hB := bas_pos p
    have hMB : 0 < M * bas p := Nat.mul_pos hM hB
    have g0 := hq q List.mem_cons_self
    have gc := ch_ok hp done.length
    have ic := bas_ok (p := p) (i := done.length) (by omega)
    have iu : IsM (M * bas p) (q * ch p done.length) := isM_mul g0.2.2 ic
    have u0 : 0 ≤ q * ch p done.length := Rat.mul_nonneg g0.1 (Rat.le_of_lt gc.1)
    have u1 : q * ch p done.length ≤ q := by
      have := Rat.mul_le_mul_of_nonneg_left gc.2 g0.1
      rw [Rat.mul_one] at this
      exact this
    have hbM : M < 2 ^ 4400 := Nat.lt_of_le_of_lt (Nat.le_mul_of_pos_right _ hB) hb
    have hbB : bas p < 2 ^ 4400 := Nat.lt_of_le_of_lt (Nat.le_mul_of_pos_left _ hM) hb
    have gu : Gd (M * bas p) (q * ch p done.length) := ⟨u0, Rat.le_trans u1 g0.2.1, iu⟩
    have gs : Gd (M * bas p) (q - q * ch p done.length) := ⟨by grind, by have := g0.2.1; grind, isM_sub (isM_of_mul g0.2.2) iu⟩
    have gz : Gd (M * bas p) 0 := ⟨Rat.le_refl, by decide, isM_zero⟩
    show wForGo _ _ (.tup [.int (done.length : Int), fr q] :: enD (done.length + 1) (qs.map fr)) _ _ _ _
    unfold wForGo
    walk_at "dl"
    refine ⟨p, done.length, rfl, hp, by omega, ?_⟩
    unfold stD
    walk_at "dl"
    refine ⟨q, _, rfl, g0.fit hM hbM, fit_pr hB ic hbB (Rat.le_of_lt gc.1) gc.2, ?_⟩
    dsimp only
    rw [get_last]
    walk_at "dl"
    have e1 : atI ((done ++ a :: 0 :: List.replicate qs.length 0).map fr) (done.length : Int) = some (fr a) := by
      rw [atI_n, List.getElem?_map, List.getElem?_append_right (Nat.le_refl _), Nat.sub_self]
      rfl
    rw [e1]
    dsimp only
    refine ⟨_, _, rfl, g0.fit hM hbM, gu.fit hMB hb, ?_⟩
    refine ⟨_, _, rfl, ha.fit hMB hb, gs.fit hMB hb, ?_⟩
    dsimp only
    rw [get_last]
    dsimp only
    rw [ixN_n (by simp)]
    dsimp only
    rw [set_last]
    have e2 : ((done ++ a :: 0 :: List.replicate qs.length 0).map fr).set done.length (fr (a + (q - q * ch p done.length))) = ((done ++ [a + (q - q * ch p done.length)]) ++ 0 :: List.replicate qs.length 0).map fr := by
      rw [List.map_append, List.set_append_right _ _ (by simp), List.length_map, Nat.sub_self, List.map_cons, List.set_cons_zero, List.append_assoc, List.map_append]
      rfl
    rw [e2]
    rw [get_last]
    dsimp only
    have e3 : (done.length : Int) + 1 = ((done ++ [a + (q - q * ch p done.length)]).length : Int) := by simp
    rw [e3]
    have e4 : atI (((done ++ [a + (q - q * ch p done.length)]) ++ 0 :: List.replicate qs.length 0).map fr) ((done ++ [a + (q - q * ch p done.length)]).length : Int) = some (fr 0) := by
      rw [atI_n, List.getElem?_map, List.getElem?_append_right (Nat.le_refl _), Nat.sub_self]
      rfl
    rw [e4]
    dsimp only
    refine ⟨_, _, rfl, gz.fit hMB hb, gu.fit hMB hb, ?_⟩
    dsimp only
    rw [get_last]
    dsimp only
    rw [ixN_n (by simp)]
    dsimp only
    rw [set_last]
    have e5 : (((done ++ [a + (q - q * ch p done.length)]) ++ 0 :: List.replicate qs.length 0).map fr).set (done ++ [a + (q - q * ch p done.length)]).length (fr (0 + q * ch p done.length)) = ((done ++ [a + (q - q * ch p done.length)]) ++ (q * ch p done.length) :: List.replicate qs.length 0).map fr := by
      rw [List.map_append, List.set_append_right _ _ (by simp), List.length_map, Nat.sub_self, List.map_cons, List.set_cons_zero, Rat.zero_add]
      simp
    rw [e5]
    have hd : done.length + 1 = (done ++ [a + (q - q * ch p done.length)]).length := by simp
    rw [hd]
    refine led_go p hp M hM hb mu Δ now qs (done ++ [a + (q - q * ch p done.length)]) (q * ch p done.length) _ _ _ (by simp; omega) gu (fun x hx => hq x (List.mem_cons_of_mem _ hx)) fun r3 r4 r5 => ?_
    have h2 := h r3 r4 r5
    have e6 : done ++ led (ch p) done.length a (q :: qs) = (done ++ [a + (q - q * ch p done.length)]) ++ led (ch p) (done ++ [a + (q - q * ch p done.length)]).length (q * ch p done.length) qs := by
      rw [← hd, List.append_assoc]
      rfl
    rw [e6] at h2
    exact h2
theorem rd_led_on : ∀ ds mu Φ, sp_led_on ds mu Φ X0 → w_led_on (startD 6 ds) mu ⟨fun _ mu' => fin mu Φ .non mu', fin mu Φ, fun _ _ => False, fun _ _ => False⟩ X0 := by
  rintro _ mu Φ ⟨p, qs, M, rfl, hp, hl, hM, hb, hq, h⟩
  unfold w_led_on wFor wEn
  unfold dMulM
  walk_at "dl"
  rw [List.length_map]
  refine ⟨⟨by omega, by omega, by decide⟩, ?_⟩
  have e1 : (List.replicate ((qs.length : Int) + 1).toNat [D.tup [.int 0, .int 1]]).flatten = (([] : List Rat) ++ 0 :: List.replicate qs.length 0).map fr := by
    rw [show ((qs.length : Int) + 1).toNat = qs.length + 1 by omega, ← fr_zero]
    have : ∀ n : Nat, (List.replicate n [fr 0]).flatten = (List.replicate n (0 : Rat)).map fr := fun n => by
      induction n with
      | zero => rfl
      | succ n ih => rw [List.replicate_succ, List.flatten_cons, ih]; rfl
    rw [this]
    rfl
  rw [e1]
  refine led_go p hp M hM hb mu _ _ qs [] 0 _ _ _ (by simpa using hl) ⟨Rat.le_refl, by decide, isM_zero⟩ hq fun r3 r4 r5 => ?_
  unfold wFrz
  walk_at "dl"
  rw [get_last]
  dsimp only
  refine .inr ⟨mu.length, Nat.le_refl _, ?_, ?_, ?_⟩
  · have : ∀ l : List Rat, nlL mu.length (l.map fr) = true := fun l => by
      induction l with
      | nil => rfl
      | cons x r ih =>
        rw [List.map_cons]
        unfold nlL
        rw [ih]
        rfl
    exact this _
  · intro o ho
    rw [set_last, List.take_left'] at ho
    · exact .inl ho
    · rfl
  · rw [set_last, List.take_left' rfl]
    exact h
theorem bas_pow {p : Pl} (h : PlOk p) {j : Nat} (hj : j ≤ 17) : bas p ^ j < 2 ^ 4400 := by
  have h1 : bas p ^ j ≤ (1000 ^ 25) ^ j := Nat.pow_le_pow_left (bas_le h) j
  have h2 : (1000 ^ 25) ^ j ≤ (1000 ^ 25) ^ 17 := Nat.pow_le_pow_right (by decide) hj
  exact Nat.lt_of_le_of_lt (Nat.le_trans h1 h2) (by decide +kernel)
theorem chs_gd {p : Pl} (h : PlOk p) {n : Nat} (hn : n ≤ 20) : ∀ q ∈ chs (ch p) n, Gd (bas p ^ n) q := fun q hq =>
  ⟨chs_nonneg (ch_ok h) n q hq, chs_le (ch_ok h) n hq, chs_isM (k := 20) (fun i hi => bas_ok (by omega)) n hn q hq⟩
def sp_chances_by : DSp := fun ds mu Φ _ => ∃ (p : Pl) (n : Nat), ds = [plD p, .lst [fr 1], .int (n : Int)] ∧ PlOk p ∧ n ≤ 16 ∧ Φ (.lst ((chs (ch p) n).map fr)) mu
def w_chances_by : DWS := (wSeq (wFor (wR1 (wCons (wVar 2) wNil)) (dgName 3) (wAsg 1 (wCall0 sp_led_on (wCons (wVar 0) (wCons (wVar 1) wNil)))))
    (wRet (wVar 1)))
theorem chances_go (p : Pl) (hp : PlOk p) (mu : MS) (Δ : DEnds) (cnt : D) (N : Nat) (hN : N ≤ 16) : ∀ (n j : Nat) (lo : Int) (t : Option D), j + n = N → (∀ t, Δ.nx [some (plD p), some (.lst ((chs (ch p) N).map fr)), some cnt, t] mu) →
    wForGo (dgName 3) (wAsg 1 (wCall0 sp_led_on (wCons (wVar 0) (wCons (wVar 1) wNil)))) (rgD lo n) [some (plD p), some (.lst ((chs (ch p) j).map fr)), some cnt, t] mu Δ X0
  | 0, j, lo, t, e, h => by
    have : j = N := by omega
    subst this
    exact h t
  | n + 1, j, lo, t, e, h => by
    rw [rgD_succ]
    unfold wForGo
    walk_at "dl"
    refine ⟨p, chs (ch p) j, bas p ^ j, rfl, hp, by rw [chs_length]; omega, Nat.pow_pos (bas_pos p), by rw [← Nat.pow_succ]; exact bas_pow hp (by omega), chs_gd hp (by omega), ?_⟩
    exact chances_go p hp mu Δ cnt N hN n (j + 1) (lo + 1) (some (.int lo)) (by omega) h
theorem rd_chances_by : ∀ ds mu Φ, sp_chances_by ds mu Φ X0 → w_chances_by (startD 4 ds) mu ⟨fun _ mu' => fin mu Φ .non mu', fin mu Φ, fun _ _ => False, fun _ _ => False⟩ X0 := by
  rintro _ mu Φ ⟨p, n, rfl, hp, hn, h⟩
  unfold w_chances_by wFor wR1
  walk_at "dl"
  refine ⟨by omega, by omega, ?_⟩
  rw [Int.toNat_natCast]
  refine chances_go p hp mu _ _ n hn n 0 0 none (by omega) fun t => ?_
  walk_at "dl"
  exact .inl h
theorem isPl_or {v : D} (hv : pl v = true) : (∃ p, v = plD p ∧ PlOk p ∧ isPl v = true) ∨ isPl v = false := by
  cases h : isPl v with
  | false => exact .inr rfl
  | true =>
    obtain ⟨p, h1, h2⟩ := isPl_of h
    exact .inl ⟨p, h1, h2, rfl⟩
theorem inR_or (v : D) (m : Nat) : (∃ n : Nat, v = .int (n : Int) ∧ n ≤ m ∧ inR v 0 m = true) ∨ inR v 0 m = false := by
  cases h : inR v 0 m with
  | false => exact .inr rfl
  | true =>
    obtain ⟨i, rfl, h1, h2⟩ := inR_int h
    refine .inl ⟨i.toNat, by rw [Int.toNat_of_nonneg h1], by omega, rfl⟩
theorem inR_nat {n m : Nat} (h : n ≤ m) : inR (.int (n : Int)) 0 (m : Int) = true := by
  unfold inR
  dsimp only
  rw [decide_eq_true (show (0 : Int) ≤ (n : Int) by omega), decide_eq_true (show (n : Int) ≤ (m : Int) by omega)]
  rfl
def sp_chances (mg : Str → Option Value) : DSp := fun ds mu Φ Ξ => ∃ v c : D, ds = [v, c] ∧ pl v = true ∧ pl c = true ∧ (isPl v = false → Ξ (cl mg "InvalidPlan") [] mu) ∧ (isPl v = true → inR c 0 16 = false → Ξ (cl mg "InvalidCount") [] mu) ∧
  ∀ p n, v = plD p → PlOk p → c = .int (n : Nat) → n ≤ 16 → Φ (.tup ((chs (ch p) n).map fr)) mu
def w_chances (mg : Str → Option Value) : DWS := (wSeq (wDrop (wCall (sp_need_plan mg) (wCons (wVar 0) wNil)))
    (wSeq (wDrop (wCall (sp_need_count mg) (wCons (wVar 1) (wCons (wC (.int 16)) wNil))))
    (wRet (wB dTuple (wCons (wCall0 sp_chances_by (wCons (wVar 0) (wCons (wLst (wCons (wTup (wCons (wC (.int 1)) (wCons (wC (.int 1)) wNil))) wNil)) (wCons (wVar 1) wNil)))) wNil)))))
theorem rd_chances (mg : Str → Option Value) : ∀ ds mu Φ Ξ, sp_chances mg ds mu Φ Ξ → w_chances mg (startD 2 ds) mu ⟨fun _ mu' => fin mu Φ .non mu', fin mu Φ, fun _ _ => False, fun _ _ => False⟩ (finX mu Ξ) := by
  rintro _ mu Φ Ξ ⟨v, c, rfl, hv, hc, h1, h2, h3⟩
  unfold w_chances
  walk_at "dl"
  refine ⟨v, rfl, hv, fun hp => ?_, fun hp => .inl (h1 hp)⟩
  obtain ⟨p, rfl, ok⟩ := isPl_of hp
  try walk_at "dl"
  refine ⟨c, 16, rfl, hc, fun hi => ?_, fun hi => .inl (h2 hp hi)⟩
  rcases inR_or c 16 with ⟨n, rfl, hn, _⟩ | z
  · exact ⟨p, n, rfl, ok, hn, .inl (h3 p n rfl ok rfl hn)⟩
  · rw [show ((16 : Nat) : Int) = 16 from rfl, hi] at z
    cases z
def sumFrom (ch : Nat → Rat) (n j : Nat) : Rat := sumR ((chs ch n).drop j)
def sp_at_least (mg : Str → Option Value) : DSp := fun ds mu Φ Ξ => ∃ v l c : D, ds = [v, l, c] ∧ pl v = true ∧ pl l = true ∧ pl c = true ∧ (isPl v = false → Ξ (cl mg "InvalidPlan") [] mu) ∧ (isPl v = true → inR l 0 16 = false → Ξ (cl mg "InvalidLevel") [] mu) ∧
  (isPl v = true → inR l 0 16 = true → inR c 0 16 = false → Ξ (cl mg "InvalidCount") [] mu) ∧
  ∀ p j n, v = plD p → PlOk p → l = .int (j : Nat) → j ≤ 16 → c = .int (n : Nat) → n ≤ 16 → Φ (fr (sumFrom (ch p) n j)) mu
def w_at_least (mg : Str → Option Value) : DWS := (wSeq (wDrop (wCall (sp_need_plan mg) (wCons (wVar 0) wNil)))
    (wSeq (wDrop (wCall (sp_need_level mg) (wCons (wVar 1) wNil)))
    (wSeq (wDrop (wCall (sp_need_count mg) (wCons (wVar 2) (wCons (wC (.int 16)) wNil))))
    (wSeq (wAsg 3 (wTup (wCons (wC (.int 0)) (wCons (wC (.int 1)) wNil))))
    (wSeq (wFor (wItL (wSl dSl (wCall0 sp_chances_by (wCons (wVar 0) (wCons (wLst (wCons (wTup (wCons (wC (.int 1)) (wCons (wC (.int 1)) wNil))) wNil)) (wCons (wVar 2) wNil)))) (wPart (wVar 1)) wNoPart)) (dgName 4) (wAsg 3 (wCall0 sp_plus (wCons (wVar 3) (wCons (wVar 4) wNil)))))
    (wRet (wVar 3)))))))
theorem sum_go {Ξ : XD} {M : Nat} (hM : 0 < M) (hb : M < 2 ^ 4000) (mu : MS) (Δ : DEnds) (v l c : D) : ∀ (qs : List Rat) (a : Rat) (t : Option D), 0 ≤ a → IsM M a → (∀ q ∈ qs, Gd M q) → a + sumR qs ≤ 100 → (∀ t, Δ.nx [some v, some l, some c, some (fr (a + sumR qs)), t] mu) →
    wForGo (dgName 4) (wAsg 3 (wCall0 sp_plus (wCons (wVar 3) (wCons (wVar 4) wNil)))) (qs.map fr) [some v, some l, some c, some (fr a), t] mu Δ Ξ
  | [], a, t, h0, hm, hq, hl, h => by
    have := h t
    rw [show a + sumR [] = a by show a + 0 = a; rw [Rat.add_zero]] at this
    exact this
  | q :: qs, a, t, h0, hm, hq, hl, h => by
    have g := hq q List.mem_cons_self
    have sn : 0 ≤ sumR qs := sumR_nonneg fun x hx => (hq x (List.mem_cons_of_mem _ hx)).1
    have e : a + sumR (q :: qs) = (a + q) + sumR qs := by show a + (q + sumR qs) = _; rw [Rat.add_assoc]
    rw [e] at hl h
    have hb2 : M < 2 ^ 4400 := Nat.lt_of_lt_of_le hb (Nat.pow_le_pow_right (by decide) (by decide))
    have a1 : a ≤ ((100 : Nat) : Rat) := by have : ((100 : Nat) : Rat) = 100 := rfl; have := g.1; grind
    have hN : 100 * M < 2 ^ 4400 := by
      have : (2 : Nat) ^ 4400 = 2 ^ 400 * 2 ^ 4000 := by rw [← Nat.pow_add]
      rw [this]
      exact Nat.mul_lt_mul'' (by decide +kernel) hb
    show wForGo _ _ (fr q :: qs.map fr) _ _ _ _
    unfold wForGo
    walk_at "dl"
    refine ⟨a, q, rfl, fit_M hM hm hb2 h0 a1 hN, g.fit hM hb2, ?_⟩
    refine sum_go hM hb mu Δ v l c qs (a + q) (some (fr q)) (Rat.add_nonneg h0 g.1) (isM_add hm g.2.2) (fun x hx => hq x (List.mem_cons_of_mem _ hx)) hl h
theorem sumR_drop_le {l : List Rat} (h : ∀ q ∈ l, 0 ≤ q) : ∀ j, sumR (l.drop j) ≤ sumR l
  | 0 => Rat.le_refl
  | j + 1 => by
    cases l with
    | nil => exact Rat.le_refl
    | cons q r =>
      have h1 := sumR_drop_le (l := r) (fun x hx => h x (List.mem_cons_of_mem _ hx)) j
      have h2 := h q List.mem_cons_self
      show sumR (r.drop j) ≤ q + sumR r
      grind
theorem cutD_from (xs : List D) (j : Nat) : cutD xs (some (j : Int)) none = xs.drop j := by
  unfold cutD
  rw [HT.sIx_nat, HT.sIx_none]
  by_cases h : j ≤ xs.length
  · rw [Nat.min_eq_left h, List.take_of_length_le (by simp)]
  · rw [Nat.min_eq_right (by omega), List.drop_length, List.drop_eq_nil_of_le (by omega), List.take_nil]
theorem rd_at_least (mg : Str → Option Value) : ∀ ds mu Φ Ξ, sp_at_least mg ds mu Φ Ξ → w_at_least mg (startD 5 ds) mu ⟨fun _ mu' => fin mu Φ .non mu', fin mu Φ, fun _ _ => False, fun _ _ => False⟩ (finX mu Ξ) := by
  rintro _ mu Φ Ξ ⟨v, l, c, rfl, hv, hl, hc, h1, h2, h3, h4⟩
  unfold w_at_least
  walk_at "dl"
  refine ⟨v, rfl, hv, fun hp => ?_, fun hp => .inl (h1 hp)⟩
  obtain ⟨p, rfl, ok⟩ := isPl_of hp
  try walk_at "dl"
  refine ⟨l, rfl, hl, fun hi => ?_, fun hi => .inl (h2 hp hi)⟩
  try walk_at "dl"
  refine ⟨c, 16, rfl, hc, fun hj => ?_, fun hj => .inl (h3 hp hi hj)⟩
  rcases inR_or l 16 with ⟨j, rfl, hjl, _⟩ | z
  · rcases inR_or c 16 with ⟨n, rfl, hn, _⟩ | z
    · unfold wFor wItL
      walk_at "dl"
      refine ⟨p, n, rfl, ok, hn, ?_⟩
      dsimp only
      rw [cutD_from _ j, ← List.map_drop]
      have hg := chs_gd ok (n := n) (by omega)
      have hs := sumR_drop_le (chs_nonneg (ch_ok ok) n) j
      rw [chs_sum] at hs
      refine sum_go (M := bas p ^ n) (Nat.pow_pos (bas_pos p)) ?_ mu _ _ _ _ _ 0 none Rat.le_refl isM_zero (fun q hq => hg q (List.mem_of_mem_drop hq)) (by rw [Rat.zero_add]; exact Rat.le_trans hs (by decide)) fun t => ?_
      · have h1 : bas p ^ n ≤ (1000 ^ 25) ^ n := Nat.pow_le_pow_left (bas_le ok) n
        have h2 : (1000 ^ 25) ^ n ≤ (1000 ^ 25) ^ 16 := Nat.pow_le_pow_right (by decide) hn
        exact Nat.lt_of_le_of_lt (Nat.le_trans h1 h2) (by decide +kernel)
      · walk_at "dl"
        rw [Rat.zero_add]
        exact .inl (h4 p j n rfl ok rfl hjl rfl hn)
    · rw [show ((16 : Nat) : Int) = 16 from rfl, hj] at z
      cases z
  · rw [show ((16 : Nat) : Int) = 16 from rfl, hi] at z
    cases z
/-! ### waits, what is known -/
def anum (p : Pl) : Nat := prodN (p.hd.map fun x => x.1.num.natAbs) * (p.c.num.natAbs * p.l.num.natAbs ^ 20)
theorem isM_inv {q : Rat} (h : 0 < q) : IsM q.num.natAbs q⁻¹ := by
  have := isM_den q⁻¹
  rw [Rat.den_inv, if_neg (by have := num_pos_of h; omega)] at this
  exact this
theorem num_pos' {q : Rat} (h : 0 < q) : 0 < q.num.natAbs := by have := num_pos_of h; omega
theorem anum_pos {p : Pl} (h : PlOk p) : 0 < anum p := by
  refine Nat.mul_pos (prodN_pos fun n hn => ?_) (Nat.mul_pos (num_pos' h.c.1.1) (Nat.pow_pos (num_pos' h.l.1.1)))
  obtain ⟨x, hx, rfl⟩ := List.mem_map.mp hn
  exact num_pos' (h.hd x hx).1.1
theorem anum_le {p : Pl} (h : PlOk p) : anum p ≤ 1000 ^ 25 := by
  have h1 : prodN (p.hd.map fun x => x.1.num.natAbs) ≤ 1000 ^ 4 := by
    refine Nat.le_trans (prodN_le (b := 1000) fun n hn => ?_) (by rw [List.length_map]; exact pow_le_1000 h.len)
    obtain ⟨x, hx, rfl⟩ := List.mem_map.mp hn
    exact (h.hd x hx).2.1.1
  have h2 : p.c.num.natAbs * p.l.num.natAbs ^ 20 ≤ 1000 * 1000 ^ 20 := Nat.mul_le_mul h.c.2.1 (Nat.pow_le_pow_left h.l.2.1 20)
  exact Nat.le_trans (Nat.mul_le_mul h1 h2) (by decide +kernel)
theorem inv_ok {p : Pl} (h : PlOk p) {i : Nat} (hi : i ≤ 20) : IsM (anum p) (ch p i)⁻¹ := by
  unfold ch
  cases e : p.hd[i]? with
  | some x =>
    have hx := List.mem_of_getElem? e
    exact isM_dvd (isM_inv (h.hd x hx).1.1) (Nat.dvd_trans (dvd_prodN (List.mem_map.mpr ⟨x, hx, rfl⟩)) (Nat.dvd_mul_right _ _))
  | none =>
    have h1 := isM_inv (Rat.pow_pos (n := i - p.hd.length) h.l.1.1)
    rw [Rat.num_pow, Int.natAbs_pow] at h1
    have h2 := isM_mul (isM_inv h.c.1.1) h1
    dsimp only
    rw [Rat.inv_mul_rev, Rat.mul_comm]
    exact isM_dvd h2 (Nat.dvd_trans (Nat.mul_dvd_mul_left _ (Nat.pow_dvd_pow _ (by omega))) (Nat.dvd_mul_left _ _))
theorem inv_le {p : Pl} (h : PlOk p) {i : Nat} (hi : i ≤ 20) : (ch p i)⁻¹ ≤ ((1000 ^ 25 : Nat) : Rat) := by
  obtain ⟨z, hz⟩ := bas_ok (p := p) hi
  have c0 := (ch_ok h i).1
  have hb : (0 : Rat) < (bas p : Rat) := Rat.natCast_pos.mpr (bas_pos p)
  have z0 : 0 < z := by
    have : (0 : Rat) < (z : Rat) := by rw [← hz]; exact Rat.mul_pos c0 hb
    exact Rat.intCast_pos.mp this
  have z1 : (1 : Rat) ≤ ch p i * (bas p : Rat) := by
    rw [hz]
    exact Rat.intCast_le_intCast.mpr (show (1 : Int) ≤ z by omega)
  have h1 := Rat.mul_le_mul_of_nonneg_left z1 (Rat.le_of_lt (Rat.inv_pos.mpr c0))
  rw [Rat.mul_one, ← Rat.mul_assoc, Rat.inv_mul_cancel _ (Rat.ne_of_gt c0), Rat.one_mul] at h1
  exact Rat.le_trans h1 (Rat.natCast_le_natCast.mpr (bas_le h))
theorem wsum_ok {p : Pl} (h : PlOk p) : ∀ n, n ≤ 20 → IsM (anum p) (wsum (ch p) n) ∧ 0 ≤ wsum (ch p) n ∧ wsum (ch p) n ≤ ((n * 1000 ^ 25 : Nat) : Rat)
  | 0, _ => ⟨isM_zero, Rat.le_refl, by rw [Nat.zero_mul]; exact Rat.le_refl⟩
  | n + 1, hn => by
    obtain ⟨a, b, c⟩ := wsum_ok h n (by omega)
    refine ⟨isM_add a (inv_ok h (by omega)), Rat.add_nonneg b (Rat.le_of_lt (Rat.inv_pos.mpr (ch_ok h n).1)), ?_⟩
    have h1 := inv_le h (i := n) (by omega)
    rw [Nat.succ_mul, Rat.natCast_add]
    show wsum (ch p) n + (ch p n)⁻¹ ≤ _
    grind
theorem fit_wsum {p : Pl} (h : PlOk p) {n : Nat} (hn : n ≤ 20) : Fit 4400 (wsum (ch p) n) := by
  obtain ⟨a, b, c⟩ := wsum_ok h n hn
  have h1 := anum_le h
  have h2 : n * 1000 ^ 25 * anum p ≤ 20 * 1000 ^ 25 * 1000 ^ 25 := Nat.mul_le_mul (Nat.mul_le_mul_right _ hn) h1
  exact fit_M (anum_pos h) a (Nat.lt_of_le_of_lt h1 (by decide +kernel)) b c (Nat.lt_of_le_of_lt h2 (by decide +kernel))
theorem fit_inv {p : Pl} (h : PlOk p) {i : Nat} (hi : i ≤ 20) : Fit 4400 (ch p i)⁻¹ := by
  have h1 := anum_le h
  exact fit_M (anum_pos h) (inv_ok h hi) (Nat.lt_of_le_of_lt h1 (by decide +kernel)) (Rat.le_of_lt (Rat.inv_pos.mpr (ch_ok h i).1)) (inv_le h hi) (Nat.lt_of_le_of_lt (Nat.mul_le_mul_left _ h1) (by decide +kernel))
theorem fit_ch {p : Pl} (h : PlOk p) {i : Nat} (hi : i ≤ 20) : Fit 4400 (ch p i) :=
  fit_pr (bas_pos p) (bas_ok hi) (Nat.lt_of_le_of_lt (bas_le h) (by decide +kernel)) (Rat.le_of_lt (ch_ok h i).1) (ch_ok h i).2
def sp_wait_of : DSp := fun ds mu Φ _ => ∃ (p : Pl) (n : Nat), ds = [plD p, .int (n : Int)] ∧ PlOk p ∧ n ≤ 17 ∧ Φ (fr (wsum (ch p) n)) mu
def w_wait_of : DWS := (wSeq (wAsg 2 (wTup (wCons (wC (.int 0)) (wCons (wC (.int 1)) wNil))))
    (wSeq (wFor (wR1 (wCons (wVar 1) wNil)) (dgName 3) (wAsg 2 (wCall0 sp_plus (wCons (wVar 2) (wCons (wCall0 sp_inverse (wCons (wOp dIx (wCall0 sp_step_of (wCons (wVar 0) (wCons (wVar 3) wNil))) (wC (.int 0))) wNil)) wNil)))))
    (wRet (wVar 2))))
theorem wait_go (p : Pl) (hp : PlOk p) (mu : MS) (Δ : DEnds) (lv : D) (N : Nat) (hN : N ≤ 17) : ∀ (n j : Nat) (t : Option D), j + n = N → (∀ t, Δ.nx [some (plD p), some lv, some (fr (wsum (ch p) N)), t] mu) →
    wForGo (dgName 3) (wAsg 2 (wCall0 sp_plus (wCons (wVar 2) (wCons (wCall0 sp_inverse (wCons (wOp dIx (wCall0 sp_step_of (wCons (wVar 0) (wCons (wVar 3) wNil))) (wC (.int 0))) wNil)) wNil)))) (rgD (j : Int) n) [some (plD p), some lv, some (fr (wsum (ch p) j)), t] mu Δ X0
  | 0, j, t, e, h => by
    have : j = N := by omega
    subst this
    exact h t
  | n + 1, j, t, e, h => by
    rw [rgD_succ]
    unfold wForGo
    walk_at "dl"
    refine ⟨p, j, rfl, hp, by omega, ?_⟩
    unfold stD
    walk_at "dl"
    refine ⟨ch p j, rfl, (ch_ok hp j).1, (fit_ch hp (by omega)).mono (by decide), ?_⟩
    refine ⟨_, _, rfl, fit_wsum hp (by omega), fit_inv hp (by omega), ?_⟩
    have := wait_go p hp mu Δ lv N hN n (j + 1) (some (.int (j : Int))) (by omega) h
    rw [show ((j + 1 : Nat) : Int) = (j : Int) + 1 by omega] at this
    exact this
theorem rd_wait_of : ∀ ds mu Φ, sp_wait_of ds mu Φ X0 → w_wait_of (startD 4 ds) mu ⟨fun _ mu' => fin mu Φ .non mu', fin mu Φ, fun _ _ => False, fun _ _ => False⟩ X0 := by
  rintro _ mu Φ ⟨p, n, rfl, hp, hn, h⟩
  unfold w_wait_of wFor wR1
  walk_at "dl"
  refine ⟨by omega, by omega, ?_⟩
  rw [Int.toNat_natCast]
  refine wait_go p hp mu _ _ n hn n 0 none (by omega) fun t => ?_
  walk_at "dl"
  exact .inl h
def sp_wait (mg : Str → Option Value) : DSp := fun ds mu Φ Ξ => ∃ v l : D, ds = [v, l] ∧ pl v = true ∧ pl l = true ∧ (isPl v = false → Ξ (cl mg "InvalidPlan") [] mu) ∧ (isPl v = true → inR l 0 16 = false → Ξ (cl mg "InvalidLevel") [] mu) ∧
  ∀ p n, v = plD p → PlOk p → l = .int (n : Nat) → n ≤ 16 → Φ (fr (wsum (ch p) n)) mu
def w_wait (mg : Str → Option Value) : DWS := (wSeq (wDrop (wCall (sp_need_plan mg) (wCons (wVar 0) wNil)))
    (wSeq (wDrop (wCall (sp_need_level mg) (wCons (wVar 1) wNil)))
    (wRet (wCall0 sp_wait_of (wCons (wVar 0) (wCons (wVar 1) wNil))))))
theorem rd_wait (mg : Str → Option Value) : ∀ ds mu Φ Ξ, sp_wait mg ds mu Φ Ξ → w_wait mg (startD 2 ds) mu ⟨fun _ mu' => fin mu Φ .non mu', fin mu Φ, fun _ _ => False, fun _ _ => False⟩ (finX mu Ξ) := by
  rintro _ mu Φ Ξ ⟨v, c, rfl, hv, hc, h1, h2, h3⟩
  unfold w_wait
  walk_at "dl"
  refine ⟨v, rfl, hv, fun hp => ?_, fun hp => .inl (h1 hp)⟩
  obtain ⟨p, rfl, ok⟩ := isPl_of hp
  refine ⟨c, rfl, hc, fun hi => ?_, fun hi => .inl (h2 hp hi)⟩
  rcases inR_or c 16 with ⟨n, rfl, hn, _⟩ | z
  · exact ⟨p, n, rfl, ok, by omega, .inl (h3 p n rfl ok rfl hn)⟩
  · rw [show ((16 : Nat) : Int) = 16 from rfl, hi] at z
    cases z
/-! ### equality of data -/
def eqdL (xs ys : List D) : Bool := PyData.eqvAll (pyL xs) (pyL ys)
theorem eqd_tup (xs ys : List D) : eqd (.tup xs) (.tup ys) = eqdL xs ys := rfl
theorem eqd_lst (xs ys : List D) : eqd (.lst xs) (.lst ys) = eqdL xs ys := rfl
theorem eqdL_nil : eqdL [] [] = true := rfl
theorem eqdL_cons (x y : D) (xs ys : List D) : eqdL (x :: xs) (y :: ys) = (eqd x y && eqdL xs ys) := rfl
theorem eqdL_nc (y : D) (ys : List D) : eqdL [] (y :: ys) = false := rfl
theorem eqdL_cn (x : D) (xs : List D) : eqdL (x :: xs) [] = false := rfl
theorem eqd_fr (p q : Rat) : eqd (fr p) (fr q) = decide (p = q) := by
  unfold fr
  rw [eqd_tup, eqdL_cons, eqdL_cons, eqdL_nil, eqd_int, eqd_int, Bool.and_true]
  by_cases h : p = q
  · subst h
    simp
  · rw [decide_eq_false h]
    by_cases h1 : p.num = q.num
    · have h2 : p.den ≠ q.den := fun e => h (Rat.ext h1 e)
      rw [decide_eq_false (show ¬ (p.den : Int) = (q.den : Int) by omega), Bool.and_false]
    · rw [decide_eq_false h1, Bool.false_and]
theorem okd_fr (q : Rat) : okd (fr q) = true := rfl
/-- all chances up to level n are 1 -/
def sureB (p : Pl) (n : Nat) : Bool := (List.range (n + 1)).all fun i => decide (ch p i = 1)
def sp_known (mg : Str → Option Value) : DSp := fun ds mu Φ Ξ => ∃ v l : D, ds = [v, l] ∧ pl v = true ∧ pl l = true ∧ (isPl v = false → Ξ (cl mg "InvalidPlan") [] mu) ∧ (isPl v = true → inR l 0 16 = false → Ξ (cl mg "InvalidLevel") [] mu) ∧
  ∀ p n, v = plD p → PlOk p → l = .int (n : Nat) → n ≤ 16 → Φ (.tup [.int (n : Int), if sureB p n = true then .int (n : Int) else .non]) mu
def w_known (mg : Str → Option Value) : DWS := (wSeq (wDrop (wCall (sp_need_plan mg) (wCons (wVar 0) wNil)))
    (wSeq (wDrop (wCall (sp_need_level mg) (wCons (wVar 1) wNil)))
    (wSeq (wAsg 2 (wB dAll (wCons (wLc (wR1 (wCons (wOp dAdd (wVar 1) (wC (.int 1))) wNil)) (dgName 3) wYes (wOp dEq (wOp dIx (wCall0 sp_step_of (wCons (wVar 0) (wCons (wVar 3) wNil))) (wC (.int 0))) (wTup (wCons (wC (.int 1)) (wCons (wC (.int 1)) wNil)))) [3]) wNil)))
    (wRet (wTup (wCons (wVar 1) (wCons (wIf (wTru (wVar 2)) (wVar 1) (wC .non)) wNil)))))))
theorem known_go (p : Pl) (hp : PlOk p) (mu : MS) (Ψ : List D → MS → Prop) (ρ : EnvD) (l : D) : ∀ (n j : Nat) (acc : List D), j + n ≤ 18 → Ψ (acc ++ (List.range n).map fun i => D.bl (decide (ch p (j + i) = 1))) mu →
    wLcGo (dgName 3) wYes (wOp dEq (wOp dIx (wCall0 sp_step_of (wCons (wVar 0) (wCons (wVar 3) wNil))) (wC (.int 0))) (wTup (wCons (wC (.int 1)) (wCons (wC (.int 1)) wNil)))) [some (plD p), some l, none, none] [3] acc (rgD (j : Int) n) mu Ψ
  | 0, j, acc, hj, h => by
    rw [rgD_zero]
    unfold wLcGo
    simpa using h
  | n + 1, j, acc, hj, h => by
    rw [rgD_succ]
    unfold wLcGo wYes
    simp only [wipeD]
    walk_at "dl"
    refine ⟨p, j, rfl, hp, by omega, ?_⟩
    unfold stD
    walk_at "dl"
    refine ⟨rfl, rfl, ?_⟩
    rw [show D.tup [.int 1, .int 1] = fr 1 from rfl, eqd_fr]
    have e1 : (j : Int) + 1 = ((j + 1 : Nat) : Int) := by omega
    rw [e1]
    refine known_go p hp mu Ψ ρ l n (j + 1) _ (by omega) ?_
    rw [List.range_succ_eq_map, List.map_cons, List.map_map] at h
    rw [List.append_assoc]
    have e2 : ((fun i => D.bl (decide (ch p (j + i) = 1))) ∘ Nat.succ) = fun i => D.bl (decide (ch p (j + 1 + i) = 1)) := by
      funext i
      show D.bl (decide (ch p (j + (i + 1)) = 1)) = _
      rw [show j + (i + 1) = j + 1 + i by omega]
    rw [e2] at h
    exact h
theorem rd_known (mg : Str → Option Value) : ∀ ds mu Φ Ξ, sp_known mg ds mu Φ Ξ → w_known mg (startD 4 ds) mu ⟨fun _ mu' => fin mu Φ .non mu', fin mu Φ, fun _ _ => False, fun _ _ => False⟩ (finX mu Ξ) := by
  rintro _ mu Φ Ξ ⟨v, c, rfl, hv, hc, h1, h2, h3⟩
  unfold w_known
  walk_at "dl"
  refine ⟨v, rfl, hv, fun hp => ?_, fun hp => .inl (h1 hp)⟩
  obtain ⟨p, rfl, ok⟩ := isPl_of hp
  refine ⟨c, rfl, hc, fun hi => ?_, fun hi => .inl (h2 hp hi)⟩
  rcases inR_or c 16 with ⟨n, rfl, hn, _⟩ | z
  · unfold wLc wR1
    walk_at "dl"
    refine ⟨by omega, by omega, by unfold rgD; rw [List.length_map, List.length_range]; omega, ?_⟩
    have e1 : ((n : Int) + 1).toNat = n + 1 := by omega
    rw [e1]
    refine known_go p ok mu _ [] _ (n + 1) 0 [] (by omega) ?_
    rw [List.nil_append]
    refine ⟨(List.range (n + 1)).map fun i => decide (ch p i = 1), ?_, ?_⟩
    · rw [List.map_map]
      refine List.map_congr_left fun i _ => ?_
      show D.bl (decide (ch p (0 + i) = 1)) = D.bl (decide (ch p i = 1))
      rw [Nat.zero_add]
    · have e2 : ((List.range (n + 1)).map fun i => decide (ch p i = 1)).all id = sureB p n := by
        rw [List.all_map]
        rfl
      dsimp only
      rw [e2]
      have h4 := h3 p n rfl ok rfl hn
      cases hs : sureB p n with
      | true =>
        rw [hs, if_pos rfl] at h4
        exact .inl h4
      | false =>
        rw [hs, if_neg Bool.false_ne_true] at h4
        exact .inl h4
  · rw [show ((16 : Nat) : Int) = 16 from rfl, hi] at z
    cases z
end DL
set_option maxHeartbeats 4000000
/-! SPL: the laws' own helpers: the promises, the readings. -/
namespace DL
open PySem PySem.Spec PyProof.Rows L2
local macro_rules | `(tactic| walk_at "dl") => `(tactic| simp only [wSeq, wAsg, wRet, wVar, wC, wOp, wUn, wTest, wChain, wTru, wAnd, wOr, wNot, wAndV, wOrV, wNotV, wIf, wNil, wCons, wTup, wLst, wLstM, wCall0, wCall, wRaise, wB, wSl, wPart, wNoPart, wNext, wDrop, wIfS, wPar, wAsgG, wSetI, wApp, dgName, dgTup, dgCons, dgNil, gt, List.set, dAdd, dSub, dMul, dFdiv, dMod, dPow, dNeg, dCmpI, dEq, dNe, dIsN, dNotN, isN, dLen, dIsi, tyD, dAbs, dMax, dMin, dInt, dBool, dTuple, dList, dIx, dSl, atI_0, atI_1, atI_2, atI_3, eqd_int, okd_int,
  List.getElem?_cons_zero, List.getElem?_cons_succ, List.length_cons, List.length_nil, startD, List.map_cons, List.map_nil, List.cons_append, List.nil_append, List.append_nil, List.replicate, List.replicate_zero, List.replicate_succ, Nat.sub_self, if_true, if_false, Bool.false_eq_true, ite_true, ite_false, reduceIte, true_and, and_true, decide_true, decide_false, Bool.not_true, Bool.not_false, Nat.reduceSub, Nat.reduceAdd])
local macro_rules | `(tactic| walk_at "ty") => `(tactic| simp only [isT_0, isT_1, isT_2, isT_3, isT_4, isT_5, isT_6, isT_7, isT_8, isT_9, isT_10, isT_11, isT_12, isT_13, isT_14, isT_15, isT_16, isT_17, isT_18, isT_19, isT_20, isT_21, isT_22, isT_23, isT_24, isT_25, isT_26, isT_27, isT_28, isT_29, memT_0, memT_1, memT_2, memT_3, memT_4, true_and, Bool.not_true, Bool.not_false])
/-! ### the deck -/
/-- the deck at k: a number, a seed, how many draws there have been -/
def Dk (k : Nat) (mu : MS) (n : Nat) : Prop := ∃ a b c : Int, mu[k]? = some (.lst [.int a, .int b, .int c]) ∧ 0 ≤ a ∧ 0 ≤ b ∧ b < 2147483579 ∧ 0 ≤ c ∧ c ≤ (n : Int)
/-- the deck alone has changed -/
def DkTo (k n : Nat) (mu mu' : MS) : Prop := ∃ a b c : Int, mu' = mu.set k (.lst [.int a, .int b, .int c]) ∧ 0 ≤ a ∧ 0 ≤ b ∧ b < 2147483579 ∧ 0 ≤ c ∧ c ≤ (n : Int)
theorem Dk.mono {k n m : Nat} {mu : MS} (h : Dk k mu n) (l : n ≤ m) : Dk k mu m := by
  obtain ⟨a, b, c, h1, h2, h3, h4, h5, h6⟩ := h
  exact ⟨a, b, c, h1, h2, h3, h4, h5, by omega⟩
theorem DkTo.mono {k n m : Nat} {mu mu' : MS} (h : DkTo k n mu mu') (l : n ≤ m) : DkTo k m mu mu' := by
  obtain ⟨a, b, c, h1, h2, h3, h4, h5, h6⟩ := h
  exact ⟨a, b, c, h1, h2, h3, h4, h5, by omega⟩
theorem Dk.refl {k n : Nat} {mu : MS} (h : Dk k mu n) : DkTo k n mu mu := by
  obtain ⟨a, b, c, h1, h2⟩ := h
  refine ⟨a, b, c, ?_, h2⟩
  obtain ⟨hl, e⟩ := List.getElem?_eq_some_iff.mp h1
  rw [← e, List.set_getElem_self]
theorem Dk.lt {k n : Nat} {mu : MS} (h : Dk k mu n) : k < mu.length := by
  obtain ⟨a, b, c, h1, _⟩ := h
  exact (List.getElem?_eq_some_iff.mp h1).1
theorem DkTo.dk {k n m : Nat} {mu mu' : MS} (h : DkTo k n mu mu') (g : Dk k mu m) : Dk k mu' n := by
  obtain ⟨a, b, c, rfl, h2⟩ := h
  exact ⟨a, b, c, List.getElem?_set_self g.lt, h2⟩
theorem DkTo.trans {k n m : Nat} {mu mu1 mu2 : MS} (h : DkTo k n mu mu1) (g : DkTo k m mu1 mu2) : DkTo k m mu mu2 := by
  obtain ⟨a, b, c, rfl, _⟩ := h
  obtain ⟨a', b', c', rfl, h2⟩ := g
  exact ⟨a', b', c', by rw [List.set_set], h2⟩
theorem DkTo.len {k n : Nat} {mu mu' : MS} (h : DkTo k n mu mu') : mu'.length = mu.length := by
  obtain ⟨a, b, c, rfl, _⟩ := h
  exact List.length_set
def sp_law_deck : DSp := fun ds mu Φ _ => ∃ cell t : Int, ds = [.int cell, .int t] ∧ ∀ a b : Int, 0 ≤ a → 0 ≤ b → b < 2147483579 → Φ (.loc mu.length) (mu ++ [.lst [.int a, .int b, .int t]])
def w_law_deck : DWS := (wSeq (wIfS (wTest (wOp (dCmpI fun i j => decide (j ≤ i)) (wVar 0) (wOp dPow (wC (.int 10)) (wC (.int 18))))) (wRet (wLstM (wCons (wOp dSub (wVar 0) (wOp dPow (wC (.int 10)) (wC (.int 18)))) (wCons (wOp dMod (wVar 0) (wC (.int 2147483579))) (wCons (wVar 1) wNil))))) wNext)
    (wRet (wLstM (wCons (wC (.int 0)) (wCons (wOp dMod (wVar 0) (wC (.int 2147483579))) (wCons (wVar 1) wNil))))))
theorem ten18 : (10 : Int) ^ (Int.toNat 18) = 1000000000000000000 := by decide
theorem cpow_10 : CPow 10 18 := ⟨by decide, by decide, by decide⟩
theorem rd_law_deck : ∀ ds mu Φ, sp_law_deck ds mu Φ X0 → w_law_deck (startD 2 ds) mu ⟨fun _ mu' => fin mu Φ .non mu', fin mu Φ, fun _ _ => False, fun _ _ => False⟩ X0 := by
  rintro _ mu Φ ⟨cell, t, rfl, h⟩
  unfold w_law_deck
  walk_at "dl"
  refine ⟨cpow_10, ?_⟩
  have b1 := Int.fmod_nonneg_of_pos cell (show (0 : Int) < 2147483579 by decide)
  have b2 := Int.fmod_lt_of_pos cell (show (0 : Int) < 2147483579 by decide)
  rw [ten18]
  by_cases hc : (1000000000000000000 : Int) ≤ cell
  · rw [if_pos (decide_eq_true hc)]
    exact ⟨cpow_10, by decide, .inl (h _ _ (by omega) b1 b2)⟩
  · rw [if_neg (by rw [decide_eq_false hc]; exact Bool.false_ne_true)]
    exact ⟨by decide, .inl (h 0 _ (by decide) b1 b2)⟩
def sp_law_pick : DSp := fun ds mu Φ _ => ∃ (k : Nat) (size : Int) (n : Nat), ds = [.loc k, .int size] ∧ 0 < size ∧ size ≤ 10000000000000000000000000000000 ∧ n ≤ 100000 ∧ Dk k mu n ∧ ∀ r mu', 0 ≤ r → r < size → DkTo k (n + 1) mu mu' → Φ (.int r) mu'
def w_law_pick : DWS := (wSeq (wIfS (wTest (wOp (dCmpI fun i j => decide (j < i)) (wOp dIx (wVar 0) (wC (.int 0))) (wC (.int 1)))) (wSeq (wAsg 2 (wOp dMod (wB dInt (wCons (wOp dIx (wVar 0) (wC (.int 0))) wNil)) (wVar 1)))
    (wSeq (wSetI (wOp dFdiv (wOp dIx (wVar 0) (wC (.int 0))) (wVar 1)) (wVar 0) (wC (.int 0)))
    (wRet (wVar 2)))) wNext)
    (wSeq (wSetI (wOp dAdd (wOp dIx (wVar 0) (wC (.int 2))) (wC (.int 1))) (wVar 0) (wC (.int 2)))
    (wSeq (wAsg 3 (wOp dMod (wOp dPow (wOp dAdd (wOp dIx (wVar 0) (wC (.int 1))) (wOp dMul (wC (.int 15485867)) (wOp dIx (wVar 0) (wC (.int 2))))) (wC (.int 5))) (wC (.int 2147483647))))
    (wSeq (wAsg 2 (wOp dFdiv (wOp dMod (wOp dPow (wOp dAdd (wVar 3) (wOp dMul (wC (.int 7919)) (wOp dIx (wVar 0) (wC (.int 2))))) (wC (.int 3))) (wC (.int 2147483629))) (wC (.int 32))))
    (wRet (wOp dMod (wB dInt (wCons (wVar 2) wNil)) (wVar 1)))))))
theorem rd_law_pick : ∀ ds mu Φ, sp_law_pick ds mu Φ X0 → w_law_pick (startD 4 ds) mu ⟨fun _ mu' => fin mu Φ .non mu', fin mu Φ, fun _ _ => False, fun _ _ => False⟩ X0 := by
  rintro _ mu Φ ⟨k, size, n, rfl, hs, hs2, hn, hd, h⟩
  obtain ⟨a, b, c, hk, ha, hb, hb2, hc, hc2⟩ := id hd
  have hl := hd.lt
  unfold w_law_pick
  walk_at "dl"
  rw [hk]
  walk_at "dl"
  by_cases h1 : 1 < a
  · rw [if_pos (decide_eq_true h1)]
    try walk_at "dl"
    refine ⟨by omega, wide_div (b := 104) hs (by omega) (by decide) (by decide), ?_⟩
    exact .inl (h _ _ (Int.fmod_nonneg_of_pos a hs) (Int.fmod_lt_of_pos a hs) ⟨a / size, b, c, rfl, Int.ediv_nonneg ha (by omega), hb, hb2, hc, by omega⟩)
  · rw [if_neg (by rw [decide_eq_false h1]; exact Bool.false_ne_true)]
    try walk_at "dl"
    rw [show ixN 3 2 = some 2 from rfl]
    dsimp only
    rw [List.getElem?_set_self hl]
    dsimp only [List.set]
    walk_at "dl"
    have q1 : (15485867 * (c + 1)).natAbs < 2 ^ 42 := by omega
    refine ⟨wide_mul (a := 24) (b := 20) (by decide) (by omega) (by decide) (by decide) (by decide), ⟨by decide, by decide, by omega⟩, by decide, ?_⟩
    have m1 := Int.fmod_nonneg_of_pos ((b + 15485867 * (c + 1)) ^ Int.toNat 5) (show (0 : Int) < 2147483647 by decide)
    have m2 := Int.fmod_lt_of_pos ((b + 15485867 * (c + 1)) ^ Int.toNat 5) (show (0 : Int) < 2147483647 by decide)
    refine ⟨wide_mul (a := 24) (b := 20) (by decide) (by omega) (by decide) (by decide) (by decide), ⟨by decide, by decide, by omega⟩, by decide, ⟨by decide, by decide⟩, by omega, ?_⟩
    refine .inl (h _ _ (Int.fmod_nonneg_of_pos _ hs) (Int.fmod_lt_of_pos _ hs) ⟨a, b, c + 1, rfl, ha, hb, hb2, by omega, by omega⟩)
def sp_law_one : DSp := fun ds mu Φ _ => ∃ (k : Nat) (xs : List D) (n : Nat), ds = [.loc k, .lst xs] ∧ 0 < xs.length ∧ xs.length ≤ 1000 ∧ n ≤ 100000 ∧ Dk k mu n ∧ ∀ x mu', x ∈ xs → DkTo k (n + 1) mu mu' → Φ x mu'
def w_law_one : DWS := (wRet (wOp dIx (wVar 1) (wCall0 sp_law_pick (wCons (wVar 0) (wCons (wB dLen (wCons (wVar 1) wNil)) wNil)))))
theorem rd_law_one : ∀ ds mu Φ, sp_law_one ds mu Φ X0 → w_law_one (startD 2 ds) mu ⟨fun _ mu' => fin mu Φ .non mu', fin mu Φ, fun _ _ => False, fun _ _ => False⟩ X0 := by
  rintro _ mu Φ ⟨k, xs, n, rfl, h0, hx, hn, hd, h⟩
  unfold w_law_one
  walk_at "dl"
  refine ⟨k, (xs.length : Int), n, rfl, by omega, by omega, hn, hd, fun r mu' r0 r1 ht => ?_⟩
  obtain ⟨i, rfl⟩ : ∃ i : Nat, r = (i : Int) := ⟨r.toNat, (Int.toNat_of_nonneg r0).symm⟩
  have hi : i < xs.length := by omega
  dsimp only
  rw [atI_n, List.getElem?_eq_getElem hi]
  exact .inl (h _ _ (List.getElem_mem hi) ht)
/-! ### fractions of the law's own -/
abbrev sp_law_shared : DSp := sp_divisor
def w_law_shared : DWS := (wSeq (wWhile (wTest (wOp dNe (wVar 1) (wC (.int 0)))) (wPar 0 1 (wCons (wVar 1) (wCons (wOp dMod (wVar 0) (wVar 1)) wNil))))
    (wRet (wB dAbs (wCons (wVar 0) wNil))))
theorem rd_law_shared : ∀ ds mu Φ, sp_law_shared ds mu Φ X0 → w_law_shared (startD 2 ds) mu ⟨fun _ mu' => fin mu Φ .non mu', fin mu Φ, fun _ _ => False, fun _ _ => False⟩ X0 := rd_divisor
def sp_law_low : DSp := fun ds mu Φ _ => ∃ (a : Int) (b : Nat), ds = [.int a, .int (b : Int)] ∧ 0 < b ∧ b < 2 ^ 9000 ∧ Φ (fr (mkRat a b)) mu
def w_law_low : DWS := (wSeq (wAsg 2 (wCall0 sp_law_shared (wCons (wVar 0) (wCons (wVar 1) wNil))))
    (wRet (wTup (wCons (wOp dFdiv (wVar 0) (wVar 2)) (wCons (wOp dFdiv (wVar 1) (wVar 2)) wNil)))))
theorem rd_law_low : ∀ ds mu Φ, sp_law_low ds mu Φ X0 → w_law_low (startD 3 ds) mu ⟨fun _ mu' => fin mu Φ .non mu', fin mu Φ, fun _ _ => False, fun _ _ => False⟩ X0 := by
  rintro _ mu Φ ⟨a, b, rfl, hb, h9, h⟩
  unfold w_law_low
  walk_at "dl"
  refine ⟨a, b, rfl, ?_⟩
  try walk_at "dl"
  exact ⟨cdiv_any (gcd_div a hb h9), cdiv_any (gcd_div a hb h9), .inl (by rw [fr_mk a b hb]; exact h)⟩
abbrev sp_law_times : DSp := two (· * ·)
def w_law_times : DWS := (wRet (wCall0 sp_law_low (wCons (wOp dMul (wOp dIx (wVar 0) (wC (.int 0))) (wOp dIx (wVar 1) (wC (.int 0)))) (wCons (wOp dMul (wOp dIx (wVar 0) (wC (.int 1))) (wOp dIx (wVar 1) (wC (.int 1)))) wNil))))
theorem rd_law_times : ∀ ds mu Φ, sp_law_times ds mu Φ X0 → w_law_times (startD 2 ds) mu ⟨fun _ mu' => fin mu Φ .non mu', fin mu Φ, fun _ _ => False, fun _ _ => False⟩ X0 := by
  rintro _ mu Φ ⟨p, q, rfl, hp, hq, h⟩
  unfold w_law_times
  simp only [fr]
  walk_at "dl"
  obtain ⟨m1, m2, m3, m4⟩ := mulZ hp hq
  refine ⟨m4, m3, _, p.den * q.den, by rw [Int.natCast_mul], Nat.mul_pos (den_pos' p) (den_pos' q), fit_den hp hq (by decide), .inl ?_⟩
  rw [← Rat.mul_def']
  exact h
/-- whole multiples of 1/M, each at most N/M in size -/
def SumOk (qs : List Rat) : Prop := ∃ M N : Nat, 0 < M ∧ (∀ q ∈ qs, Sz M N q) ∧ M < 2 ^ 4400 ∧ qs.length * N < 2 ^ 4400
/-- fractions as they are written, not always in their lowest terms -/
abbrev rwD (r : Int × Nat) : D := .tup [.int r.1, .int (r.2 : Int)]
def rwQ (r : Int × Nat) : Rat := mkRat r.1 r.2
def SumR (rs : List (Int × Nat)) : Prop := ∃ M N : Nat, 0 < M ∧ (∀ r ∈ rs, 0 < r.2 ∧ r.2 < 2 ^ 4400 ∧ r.1.natAbs < 2 ^ 4400 ∧ Sz M N (rwQ r)) ∧ M < 2 ^ 4400 ∧ rs.length * N < 2 ^ 4400
def itD (t : Bool) (xs : List D) : D := if t then .tup xs else .lst xs
def sp_law_sum : DSp := fun ds mu Φ _ => ∃ (t : Bool) (rs : List (Int × Nat)), ds = [itD t (rs.map rwD)] ∧ SumR rs ∧ Φ (fr (sumR (rs.map rwQ))) mu
theorem fit_sz {n M N : Nat} {q : Rat} (hM : 0 < M) (h : Sz M N q) (h1 : M < 2 ^ n) (h2 : N < 2 ^ n) : Fit n q := by
  obtain ⟨z, hz, hn⟩ := h
  have e : q = mkRat z M := by rw [Rat.mkRat_eq_div, ← hz, Rat.mul_div_cancel (nc_ne hM)]
  have d1 : q.den ≤ M := by
    rw [e, Rat.den_mkRat, if_neg (by omega)]
    exact Nat.div_le_self _ _
  have d2 : q.num.natAbs ≤ z.natAbs := by
    rw [e, Rat.num_mkRat, if_neg (by omega)]
    exact Int.natAbs_ediv_le_natAbs _ _
  exact ⟨by omega, by omega⟩
def rwO (q : Rat) : Int × Nat := (q.num, q.den)
theorem rwO_q (q : Rat) : rwQ (rwO q) = q := Rat.mkRat_self q
theorem law_sum_fr {t : Bool} {qs : List Rat} (so : SumOk qs) {mu : MS} {Φ : D → MS → Prop} {Ξ : XD} (h : Φ (fr (sumR qs)) mu) : sp_law_sum [itD t (qs.map fr)] mu Φ Ξ := by
  obtain ⟨M, N, hM, hq, h1, h2⟩ := so
  have e1 : qs.map fr = (qs.map rwO).map rwD := by rw [List.map_map]; rfl
  have e2 : (qs.map rwO).map rwQ = qs := by
    rw [List.map_map]
    conv => rhs; rw [← List.map_id qs]
    exact List.map_congr_left fun q _ => rwO_q q
  refine ⟨t, qs.map rwO, by rw [e1], ⟨M, N, hM, fun r hr => ?_, h1, by rw [List.length_map]; exact h2⟩, by rw [e2]; exact h⟩
  obtain ⟨q, hm, rfl⟩ := List.mem_map.mp hr
  have hN : N < 2 ^ 4400 := Nat.lt_of_le_of_lt (Nat.le_mul_of_pos_left _ (List.length_pos_of_mem hm)) h2
  obtain ⟨f1, f2⟩ := fit_sz hM (hq q hm) h1 hN
  exact ⟨den_pos' q, f1, f2, by rw [rwO_q]; exact hq q hm⟩
theorem law_sum_eq {d : D} {t : Bool} {qs : List Rat} (e : d = itD t (qs.map fr)) (so : SumOk qs) {mu : MS} {Φ : D → MS → Prop} {Ξ : XD} (h : Φ (fr (sumR qs)) mu) : sp_law_sum [d] mu Φ Ξ := by
  subst e
  exact law_sum_fr so h
def w_law_sum : DWS := (wSeq (wAsgG (dgTup 2 (dgCons (dgName 1) (dgCons (dgName 2) dgNil))) (wTup (wCons (wC (.int 0)) (wCons (wC (.int 1)) wNil))))
    (wSeq (wFor (wItA (wVar 0)) (dgTup 2 (dgCons (dgName 3) (dgCons (dgName 4) dgNil))) (wAsgG (dgTup 2 (dgCons (dgName 1) (dgCons (dgName 2) dgNil))) (wCall0 sp_law_low (wCons (wOp dAdd (wOp dMul (wVar 1) (wVar 4)) (wOp dMul (wVar 3) (wVar 2))) (wCons (wOp dMul (wVar 2) (wVar 4)) wNil)))))
    (wRet (wTup (wCons (wVar 1) (wCons (wVar 2) wNil))))))
theorem lsum_go {M N : Nat} (hM : 0 < M) (h1 : M < 2 ^ 4400) (mu : MS) (Δ : DEnds) (d0 : D) : ∀ (rs : List (Int × Nat)) (a : Rat) (k : Nat) (r3 r4 : Option D), Sz M (k * N) a → (k + rs.length) * N < 2 ^ 4400 → (∀ r ∈ rs, 0 < r.2 ∧ r.2 < 2 ^ 4400 ∧ r.1.natAbs < 2 ^ 4400 ∧ Sz M N (rwQ r)) →
    (∀ r3 r4, Δ.nx [some d0, some (.int (a + sumR (rs.map rwQ)).num), some (.int ((a + sumR (rs.map rwQ)).den : Int)), r3, r4] mu) →
    wForGo (dgTup 2 (dgCons (dgName 3) (dgCons (dgName 4) dgNil))) (wAsgG (dgTup 2 (dgCons (dgName 1) (dgCons (dgName 2) dgNil))) (wCall0 sp_law_low (wCons (wOp dAdd (wOp dMul (wVar 1) (wVar 4)) (wOp dMul (wVar 3) (wVar 2))) (wCons (wOp dMul (wVar 2) (wVar 4)) wNil)))) (rs.map rwD)
      [some d0, some (.int a.num), some (.int (a.den : Int)), r3, r4] mu Δ X0
  | [], a, k, r3, r4, ha, hk, hq, h => by
    have := h r3 r4
    rw [show a + sumR (([] : List (Int × Nat)).map rwQ) = a by show a + 0 = a; rw [Rat.add_zero]] at this
    exact this
  | (u, v) :: rs, a, k, r3, r4, ha, hk, hq, h => by
    obtain ⟨v0, v1, u1, qm⟩ := hq (u, v) List.mem_cons_self
    have e : a + sumR (((u, v) :: rs).map rwQ) = (a + mkRat u v) + sumR (rs.map rwQ) := by show a + (mkRat u v + sumR _) = _; rw [Rat.add_assoc]
    rw [e] at h
    rw [List.length_cons] at hk
    have hkN : k * N < 2 ^ 4400 := Nat.lt_of_le_of_lt (Nat.mul_le_mul_right _ (by omega)) hk
    have fa := fit_sz hM ha h1 hkN
    have m1 : CMulW a.num v := wide_mul fa.2 (by rw [Int.natAbs_natCast]; exact v1) (by decide) (by decide) (by decide)
    have m2 : CMulW u a.den := wide_mul u1 (by rw [Int.natAbs_natCast]; exact fa.1) (by decide) (by decide) (by decide)
    have m3 : CMulW a.den v := wide_mul (by rw [Int.natAbs_natCast]; exact fa.1) (by rw [Int.natAbs_natCast]; exact v1) (by decide) (by decide) (by decide)
    have hd : a.den * v < 2 ^ 9000 := by
      have h : a.den * v < 2 ^ 4400 * 2 ^ 4400 := Nat.mul_lt_mul'' fa.1 v1
      rw [← Nat.pow_add] at h
      exact Nat.lt_of_lt_of_le h (Nat.pow_le_pow_right (by decide) (by decide))
    show wForGo _ _ (rwD (u, v) :: rs.map rwD) _ _ _ _
    unfold wForGo
    walk_at "dl"
    refine ⟨m1, m2, m3, _, a.den * v, by rw [Int.natCast_mul], Nat.mul_pos (den_pos' a) v0, hd, ?_⟩
    have ea : mkRat (a.num * v + u * a.den) (a.den * v) = a + mkRat u v := by
      conv => rhs; rw [← Rat.mkRat_self a]
      rw [Rat.mkRat_add_mkRat _ _ a.den_nz (by omega)]
    rw [ea]
    unfold fr
    walk_at "dl"
    exact lsum_go hM h1 mu Δ d0 rs (a + mkRat u v) (k + 1) _ _ (by rw [Nat.succ_mul]; exact ha.add qm) (by rw [show k + 1 + rs.length = k + (rs.length + 1) by omega]; exact hk) (fun x hx => hq x (List.mem_cons_of_mem _ hx)) h
theorem rd_law_sum : ∀ ds mu Φ, sp_law_sum ds mu Φ X0 → w_law_sum (startD 5 ds) mu ⟨fun _ mu' => fin mu Φ .non mu', fin mu Φ, fun _ _ => False, fun _ _ => False⟩ X0 := by
  rintro _ mu Φ ⟨t, rs, rfl, ⟨M, N, hM, hq, h1, h2⟩, h⟩
  unfold w_law_sum wFor wItA
  have key : ∀ (d0 : D), wForGo (dgTup 2 (dgCons (dgName 3) (dgCons (dgName 4) dgNil))) (wAsgG (dgTup 2 (dgCons (dgName 1) (dgCons (dgName 2) dgNil))) (wCall0 sp_law_low (wCons (wOp dAdd (wOp dMul (wVar 1) (wVar 4)) (wOp dMul (wVar 3) (wVar 2))) (wCons (wOp dMul (wVar 2) (wVar 4)) wNil)))) (rs.map rwD)
      [some d0, some (.int 0), some (.int 1), none, none] mu ⟨fun ρ' mu' => (wRet (wTup (wCons (wVar 1) (wCons (wVar 2) wNil)))) ρ' mu' ⟨fun _ mu' => fin mu Φ .non mu', fin mu Φ, fun _ _ => False, fun _ _ => False⟩ X0, fin mu Φ, fun _ _ => False, fun _ _ => False⟩ X0 := fun d0 => by
    refine lsum_go (N := N) hM h1 mu _ d0 rs 0 0 none none Sz.zero (by rw [Nat.zero_add]; exact h2) hq fun r3 r4 => ?_
    walk_at "dl"
    rw [Rat.zero_add]
    exact .inl h
  cases t with
  | true =>
    unfold itD
    walk_at "dl"
    exact key _
  | false =>
    unfold itD
    walk_at "dl"
    exact key _
/-! ### drawn plans -/
theorem mk_parts (a : Int) {b : Nat} (hb : 0 < b) : (mkRat a b).den ≤ b ∧ (mkRat a b).num.natAbs ≤ a.natAbs := by
  rw [Rat.den_mkRat, Rat.num_mkRat, if_neg (by omega), if_neg (by omega)]
  exact ⟨Nat.div_le_self _ _, Int.natAbs_ediv_le_natAbs _ _⟩
theorem ch_mk {a b : Nat} (ha : 0 < a) (hb : a ≤ b) : Ch (mkRat (a : Int) b) := by
  have hb0 : 0 < b := by omega
  have ha' : (0 : Rat) < (a : Rat) := Rat.natCast_pos.mpr ha
  have hb' : (0 : Rat) < (b : Rat) := Rat.natCast_pos.mpr hb0
  have e : mkRat (a : Int) b * (b : Rat) = (a : Rat) := by
    rw [Rat.mkRat_eq_div]
    exact Rat.div_mul_cancel (nc_ne hb0)
  have hab : (a : Rat) ≤ (b : Rat) := Rat.natCast_le_natCast.mpr hb
  constructor
  · have h0 : 0 * (b : Rat) < mkRat (a : Int) b * (b : Rat) := by rw [e, Rat.zero_mul]; exact ha'
    exact Rat.lt_of_mul_lt_mul_right h0 (Rat.le_of_lt hb')
  · have h1 : mkRat (a : Int) b * (b : Rat) ≤ 1 * (b : Rat) := by rw [e, Rat.one_mul]; exact hab
    exact Rat.le_of_mul_le_mul_right h1 hb'
theorem bd_ch {q : Rat} (h : Ch q) (hd : q.den ≤ 1000) : Bd q := by
  have h1 := le_one.mp h.2
  have h2 := pos_num.mp h.1
  exact ⟨by omega, hd⟩
def sp_law_share : DSp := fun ds mu Φ _ => ∃ (k most n : Nat), ds = [.loc k, .int (most : Int)] ∧ 0 < most ∧ most ≤ 1000 ∧ n ≤ 99000 ∧ Dk k mu n ∧ ∀ q mu', Ch q → q.den ≤ most → DkTo k (n + 2) mu mu' → Φ (fr q) mu'
def w_law_share : DWS := (wSeq (wAsg 2 (wOp dAdd (wC (.int 1)) (wCall0 sp_law_pick (wCons (wVar 0) (wCons (wVar 1) wNil)))))
    (wRet (wCall0 sp_law_low (wCons (wOp dAdd (wC (.int 1)) (wCall0 sp_law_pick (wCons (wVar 0) (wCons (wVar 2) wNil)))) (wCons (wVar 2) wNil)))))
theorem rd_law_share : ∀ ds mu Φ, sp_law_share ds mu Φ X0 → w_law_share (startD 3 ds) mu ⟨fun _ mu' => fin mu Φ .non mu', fin mu Φ, fun _ _ => False, fun _ _ => False⟩ X0 := by
  rintro _ mu Φ ⟨k, most, n, rfl, h0, hm, hn, hd, h⟩
  unfold w_law_share
  walk_at "dl"
  refine ⟨k, (most : Int), n, rfl, by omega, by omega, by omega, hd, fun r mu1 r0 r1 t1 => ?_⟩
  walk_at "dl"
  refine ⟨k, 1 + r, n + 1, rfl, by omega, by omega, by omega, t1.dk hd, fun r' mu2 r0' r1' t2 => ?_⟩
  walk_at "dl"
  obtain ⟨b, hb⟩ : ∃ b : Nat, 1 + r = (b : Int) := ⟨(1 + r).toNat, by omega⟩
  obtain ⟨a, ha⟩ : ∃ a : Nat, 1 + r' = (a : Int) := ⟨(1 + r').toNat, by omega⟩
  rw [hb, ha]
  refine ⟨(a : Int), b, rfl, by omega, ?_, .inl ?_⟩
  · have : b ≤ 1000 := by omega
    exact Nat.lt_of_le_of_lt this (Nat.lt_of_lt_of_le (show 1000 < 2 ^ 10 by decide) (Nat.pow_le_pow_right (by decide) (by decide)))
  · exact h _ _ (ch_mk (by omega) (by omega)) (Nat.le_trans (mk_parts _ (by omega)).1 (by omega)) (t1.trans t2)
theorem fr_inv {q : Rat} (h : 0 < q) : fr q⁻¹ = .tup [.int (q.den : Int), .int q.num] := by
  have h1 := num_pos_of h
  unfold fr
  rw [Rat.num_inv, Rat.den_inv, if_neg (by omega), Int.sign_eq_one_of_pos h1, Int.one_mul, show ((q.num.natAbs : Nat) : Int) = q.num by omega]
theorem bd_inv {q : Rat} (h : Ch q) (hd : q.den ≤ 1000) : Bd q⁻¹ := by
  have h1 := le_one.mp h.2
  have h2 := pos_num.mp h.1
  unfold Bd
  rw [Rat.num_inv, Rat.den_inv, if_neg (by omega), Int.sign_eq_one_of_pos h2, Int.one_mul]
  exact ⟨by omega, by omega⟩
def sp_law_gain : DSp := fun ds mu Φ _ => ∃ (k : Nat) (q : Rat) (n : Nat), ds = [.loc k, fr q] ∧ Ch q ∧ q.den ≤ 1000 ∧ n ≤ 99000 ∧ Dk k mu n ∧ ∀ g mu', Bd g → DkTo k (n + 3) mu mu' → Φ (fr g) mu'
def w_law_gain : DWS := (wSeq (wAsg 2 (wCall0 sp_law_pick (wCons (wVar 0) (wCons (wC (.int 3)) wNil))))
    (wSeq (wIfS (wTest (wOp (dCmpI fun i j => decide (j < i)) (wVar 2) (wC (.int 0)))) (wRet (wIf (wTest (wOp dEq (wCall0 sp_law_shared (wCons (wOp dIx (wVar 1) (wC (.int 0))) (wCons (wOp dIx (wVar 1) (wC (.int 1))) wNil))) (wC (.int 1)))) (wTup (wCons (wOp dIx (wVar 1) (wC (.int 1))) (wCons (wOp dIx (wVar 1) (wC (.int 0))) wNil))) (wTup (wCons (wC (.int 0)) (wCons (wC (.int 1)) wNil))))) wNext)
    (wRet (wCall0 sp_law_low (wCons (wOp dSub (wCall0 sp_law_pick (wCons (wVar 0) (wCons (wC (.int 11)) wNil))) (wC (.int 4))) (wCons (wOp dAdd (wC (.int 1)) (wCall0 sp_law_pick (wCons (wVar 0) (wCons (wC (.int 3)) wNil)))) wNil))))))
theorem rd_law_gain : ∀ ds mu Φ, sp_law_gain ds mu Φ X0 → w_law_gain (startD 3 ds) mu ⟨fun _ mu' => fin mu Φ .non mu', fin mu Φ, fun _ _ => False, fun _ _ => False⟩ X0 := by
  rintro _ mu Φ ⟨k, q, n, rfl, hq, hqd, hn, hd, h⟩
  unfold w_law_gain
  walk_at "dl"
  refine ⟨k, 3, n, rfl, by decide, by decide, by omega, hd, fun r mu1 r0 r1 t1 => ?_⟩
  walk_at "dl"
  by_cases hr : 0 < r
  · rw [if_pos (decide_eq_true hr)]
    unfold fr
    walk_at "dl"
    refine ⟨q.num, (q.den : Int), rfl, ?_⟩
    try walk_at "dl"
    rw [gcd_fr]
    try walk_at "dl"
    rw [if_pos (by decide)]
    have := h q⁻¹ mu1 (bd_inv hq hqd) (t1.mono (by omega))
    rw [fr_inv hq.1] at this
    exact .inl this
  · rw [if_neg (by rw [decide_eq_false hr]; exact Bool.false_ne_true)]
    refine ⟨k, 11, n + 1, rfl, by decide, by decide, by omega, t1.dk hd, fun s mu2 s0 s1 t2 => ?_⟩
    walk_at "dl"
    refine ⟨k, 3, n + 2, rfl, by decide, by decide, by omega, (t1.trans t2).dk hd, fun u mu3 u0 u1 t3 => ?_⟩
    walk_at "dl"
    obtain ⟨b, hb⟩ : ∃ b : Nat, 1 + u = (b : Int) := ⟨(1 + u).toNat, by omega⟩
    rw [hb]
    refine ⟨s - 4, b, rfl, by omega, ?_, .inl ?_⟩
    · have : b ≤ 1000 := by omega
      exact Nat.lt_of_le_of_lt this (Nat.lt_of_lt_of_le (show 1000 < 2 ^ 10 by decide) (Nat.pow_le_pow_right (by decide) (by decide)))
    · have hp := mk_parts (s - 4) (show 0 < b by omega)
      exact h _ _ ⟨by omega, by omega⟩ ((t1.trans t2).trans t3)
def sp_law_plan : DSp := fun ds mu Φ _ => ∃ (k most n : Nat), ds = [.loc k, .int (most : Int)] ∧ 0 < most ∧ most ≤ 1000 ∧ n ≤ 90000 ∧ Dk k mu n ∧ ∀ p mu', PlOk p → DkTo k (n + 60) mu mu' → Φ (plD p) mu'
def w_law_plan : DWS := (wSeq (wPar 2 3 (wCons (wTup wNil) (wCons (wLc (wR1 (wCons (wOp dAdd (wCall0 sp_law_pick (wCons (wVar 0) (wCons (wC (.int 5)) wNil))) (wC (.int 1))) wNil)) (dgName 4) wYes (wCall0 sp_law_share (wCons (wVar 0) (wCons (wVar 1) wNil))) [4]) wNil)))
    (wSeq (wIfS (wTest (wOp dEq (wCall0 sp_law_pick (wCons (wVar 0) (wCons (wC (.int 2)) wNil))) (wC (.int 0)))) (wAsg 3 (wOp dAdd (wOp dMul (wLst (wCons (wTup (wCons (wC (.int 1)) (wCons (wC (.int 1)) wNil))) wNil)) (wOp dSub (wB dLen (wCons (wVar 3) wNil)) (wC (.int 1)))) (wSl dSl (wVar 3) (wPart (wUn dNeg (wC (.int 1)))) wNoPart))) wNext)
    (wSeq (wFor (wItL (wSl dSl (wVar 3) wNoPart (wPart (wUn dNeg (wC (.int 1)))))) (dgName 5) (wAsg 2 (wOp dAdd (wVar 2) (wTup (wCons (wTup (wCons (wVar 5) (wCons (wCall0 sp_law_gain (wCons (wVar 0) (wCons (wVar 5) wNil))) wNil))) wNil)))))
    (wSeq (wAsg 6 (wCall0 sp_law_share (wCons (wVar 0) (wCons (wC (.int 3)) wNil))))
    (wSeq (wAsg 7 (wIf (wTest (wOp (dCmpI fun i j => decide (j < i)) (wCall0 sp_law_pick (wCons (wVar 0) (wCons (wC (.int 3)) wNil))) (wC (.int 0)))) (wTup (wCons (wOp dIx (wVar 6) (wC (.int 1))) (wCons (wOp dIx (wVar 6) (wC (.int 0))) wNil))) (wTup (wCons (wCall0 sp_law_pick (wCons (wVar 0) (wCons (wC (.int 3)) wNil))) (wCons (wC (.int 1)) wNil)))))
    (wRet (wTup (wCons (wVar 2) (wCons (wTup (wCons (wOp dIx (wVar 3) (wUn dNeg (wC (.int 1)))) (wCons (wVar 6) (wCons (wCall0 sp_law_gain (wCons (wVar 0) (wCons (wOp dIx (wVar 3) (wUn dNeg (wC (.int 1)))) wNil))) (wCons (wVar 7) wNil))))) wNil)))))))))
def w_plan_rest : DWS := (wSeq (wFor (wItL (wSl dSl (wVar 3) wNoPart (wPart (wUn dNeg (wC (.int 1)))))) (dgName 5) (wAsg 2 (wOp dAdd (wVar 2) (wTup (wCons (wTup (wCons (wVar 5) (wCons (wCall0 sp_law_gain (wCons (wVar 0) (wCons (wVar 5) wNil))) wNil))) wNil)))))
    (wSeq (wAsg 6 (wCall0 sp_law_share (wCons (wVar 0) (wCons (wC (.int 3)) wNil))))
    (wSeq (wAsg 7 (wIf (wTest (wOp (dCmpI fun i j => decide (j < i)) (wCall0 sp_law_pick (wCons (wVar 0) (wCons (wC (.int 3)) wNil))) (wC (.int 0)))) (wTup (wCons (wOp dIx (wVar 6) (wC (.int 1))) (wCons (wOp dIx (wVar 6) (wC (.int 0))) wNil))) (wTup (wCons (wCall0 sp_law_pick (wCons (wVar 0) (wCons (wC (.int 3)) wNil))) (wCons (wC (.int 1)) wNil)))))
    (wRet (wTup (wCons (wVar 2) (wCons (wTup (wCons (wOp dIx (wVar 3) (wUn dNeg (wC (.int 1)))) (wCons (wVar 6) (wCons (wCall0 sp_law_gain (wCons (wVar 0) (wCons (wOp dIx (wVar 3) (wUn dNeg (wC (.int 1)))) wNil))) (wCons (wVar 7) wNil))))) wNil)))))))
theorem cut_init (ini : List D) (z : D) : cutD (ini ++ [z]) none (some (-1)) = ini := by
  unfold cutD
  rw [HT.sIx_none]
  have e : HT.sIx (ini ++ [z]).length (ini ++ [z]).length (some (-1)) = ini.length := by
    show (if (-1 : Int) < 0 then ((-1 : Int) + ((ini ++ [z]).length : Int)).toNat else min (-1 : Int).toNat (ini ++ [z]).length) = _
    rw [if_pos (by decide), List.length_append, List.length_singleton]
    omega
  rw [e, List.drop_zero, Nat.sub_zero, List.take_left' rfl]
theorem cut_last (ini : List D) (z : D) : cutD (ini ++ [z]) (some (-1)) none = [z] := by
  unfold cutD
  rw [HT.sIx_none]
  have e : HT.sIx (ini ++ [z]).length 0 (some (-1)) = ini.length := by
    show (if (-1 : Int) < 0 then ((-1 : Int) + ((ini ++ [z]).length : Int)).toNat else min (-1 : Int).toNat (ini ++ [z]).length) = _
    rw [if_pos (by decide), List.length_append, List.length_singleton]
    omega
  rw [e, List.drop_left' rfl, List.length_append, List.length_singleton, show ini.length + 1 - ini.length = 1 by omega]
  rfl
theorem atI_last {α : Type} (ini : List α) (z : α) : atI (ini ++ [z]) (-1) = some z := by
  unfold atI ixN
  rw [if_neg (by decide), if_pos (by rw [List.length_append, List.length_singleton]; omega)]
  show (ini ++ [z])[(-1 + ((ini ++ [z]).length : Int)).toNat]? = some z
  rw [show (-1 + ((ini ++ [z]).length : Int)).toNat = ini.length by rw [List.length_append, List.length_singleton]; omega]
  rw [List.getElem?_append_right (Nat.le_refl _), Nat.sub_self]
  rfl
theorem plan_go (k : Nat) (Δ : DEnds) (r1 r3 r4 r6 r7 : Option D) : ∀ (ini : List Rat) (hd : List (Rat × Rat)) (n : Nat) (mu : MS) (r5 : Option D), n + 3 * ini.length ≤ 99000 → hd.length + ini.length ≤ 100 → Dk k mu n → (∀ q ∈ ini, Ch q ∧ q.den ≤ 1000) →
    (∀ (hd' : List (Rat × Rat)) (mu' : MS) (r5 : Option D), hd'.length = ini.length → (∀ x ∈ hd', Ch x.1 ∧ Bd x.1 ∧ Bd x.2) → DkTo k (n + 3 * ini.length) mu mu' → Δ.nx [some (.loc k), r1, some (.tup ((hd ++ hd').map prD)), r3, r4, r5, r6, r7] mu') →
    wForGo (dgName 5) (wAsg 2 (wOp dAdd (wVar 2) (wTup (wCons (wTup (wCons (wVar 5) (wCons (wCall0 sp_law_gain (wCons (wVar 0) (wCons (wVar 5) wNil))) wNil))) wNil)))) (ini.map fr) [some (.loc k), r1, some (.tup (hd.map prD)), r3, r4, r5, r6, r7] mu Δ X0
  | [], hd, n, mu, r5, hn, hl, hk, hq, h => by
    have := h [] mu r5 rfl (fun x hx => by cases hx) hk.refl
    rw [List.append_nil] at this
    exact this
  | q :: ini, hd, n, mu, r5, hn, hl, hk, hq, h => by
    rw [List.length_cons] at hn hl
    obtain ⟨q1, q2⟩ := hq q List.mem_cons_self
    show wForGo _ _ (fr q :: ini.map fr) _ _ _ _
    unfold wForGo
    walk_at "dl"
    refine ⟨k, q, n, rfl, q1, q2, by omega, hk, fun g mu1 hg t1 => ?_⟩
    dsimp only
    refine ⟨by rw [List.length_map]; omega, ?_⟩
    have e1 : hd.map prD ++ [D.tup [fr q, fr g]] = (hd ++ [(q, g)]).map prD := by rw [List.map_append]; rfl
    rw [e1]
    refine plan_go k Δ r1 r3 r4 r6 r7 ini (hd ++ [(q, g)]) (n + 3) mu1 _ (by omega) (by rw [List.length_append, List.length_singleton]; omega) (t1.dk hk) (fun x hx => hq x (List.mem_cons_of_mem _ hx)) fun hd' mu' r5 hl' hx' t' => ?_
    have := h ((q, g) :: hd') mu' r5 (by rw [List.length_cons, hl', List.length_cons]) (fun x hx => ?_) ((t1.trans t').mono (by rw [List.length_cons]; omega))
    · rw [show hd ++ (q, g) :: hd' = (hd ++ [(q, g)]) ++ hd' by simp] at this
      exact this
    · rcases List.mem_cons.mp hx with e | e
      · rw [e]
        exact ⟨q1, bd_ch q1 q2, hg⟩
      · exact hx' x e
theorem rest_ok (k n : Nat) (Φ : D → MS → Prop) (mu0 mu : MS) (r1 r4 : Option D) (ini : List Rat) (z : Rat) (hn : n ≤ 90020) (hl : ini.length ≤ 4) (hk : Dk k mu n) (hq : ∀ q ∈ ini, Ch q ∧ q.den ≤ 1000) (hz : Ch z ∧ z.den ≤ 1000)
    (h : ∀ p mu', PlOk p → DkTo k (n + 30) mu mu' → Φ (plD p) mu') :
    w_plan_rest [some (.loc k), r1, some (.tup []), some (.lst ((ini ++ [z]).map fr)), r4, none, none, none] mu ⟨fun _ mu' => fin mu0 Φ .non mu', fin mu0 Φ, fun _ _ => False, fun _ _ => False⟩ X0 := by
  unfold w_plan_rest wFor wItL
  walk_at "dl"
  rw [List.map_append, List.map_cons, List.map_nil, cut_init]
  refine plan_go k _ r1 _ r4 none none ini [] n mu none (by omega) (by simpa using Nat.le_trans hl (by decide)) hk hq fun hd mu1 r5 hlen hx t1 => ?_
  walk_at "dl"
  refine ⟨k, 3, n + 3 * ini.length, rfl, by decide, by decide, by omega, t1.dk hk, fun l mu2 l1 l2 t2 => ?_⟩
  walk_at "dl"
  have k2 := (t1.trans t2).dk hk
  have lo : PlOk ⟨hd, z, l, z, 0⟩ → True := fun _ => trivial
  have fin_ : ∀ (m : Rat) (mu3 : MS) (n3 : Nat), 0 ≤ m → Bd m → n3 ≤ n + 20 → DkTo k n3 mu mu3 →
      sp_law_gain [.loc k, fr z] mu3 (fun d mu1 => fin mu0 Φ (.tup [.tup (hd.map prD), .tup [fr z, fr l, d, fr m]]) mu1) X0 := fun m mu3 n3 m0 hm hn3 t3 => by
    refine ⟨k, z, n3, rfl, hz.1, hz.2, by omega, t3.dk hk, fun g mu4 hg t4 => .inl ?_⟩
    exact h ⟨hd, z, l, g, m⟩ mu4 ⟨by show hd.length ≤ 4; omega, hx, ⟨hz.1, bd_ch hz.1 hz.2⟩, ⟨l1, bd_ch l1 (show l.den ≤ 1000 by omega)⟩, hg, ⟨m0, hm⟩⟩ ((t3.trans t4).mono (by omega))
  refine ⟨k, 3, n + 3 * ini.length + 2, rfl, by decide, by decide, by omega, k2, fun r mu3 r0 r1 t3 => ?_⟩
  walk_at "dl"
  by_cases hr : 0 < r
  · rw [if_pos (decide_eq_true hr)]
    have e := fr_inv l1.1
    have f := fin_ l⁻¹ mu3 (n + 3 * ini.length + 3) (Rat.le_of_lt (Rat.inv_pos.mpr l1.1)) (bd_inv l1 (by omega)) (by omega) ((t1.trans t2).trans t3)
    rw [e] at f
    unfold fr
    unfold fr at f
    walk_at "dl"
    rw [atI_last]
    exact f
  · rw [if_neg (by rw [decide_eq_false hr]; exact Bool.false_ne_true)]
    refine ⟨k, 3, n + 3 * ini.length + 3, rfl, by decide, by decide, by omega, ((t1.trans t2).trans t3).dk hk, fun s mu4 s0 s1 t4 => ?_⟩
    walk_at "dl"
    have es : D.tup [.int s, .int 1] = fr (s : Rat) := rfl
    rw [es, atI_last]
    dsimp only
    refine fin_ (s : Rat) mu4 (n + 3 * ini.length + 4) (Rat.intCast_nonneg.mpr s0) ⟨?_, by show 1 ≤ 1000; decide⟩ (by omega) (((t1.trans t2).trans t3).trans t4)
    show s.natAbs ≤ 1000
    omega
theorem shares_go (k most : Nat) (h0 : 0 < most) (hm : most ≤ 1000) (Ψ : List D → MS → Prop) (r1 r2 r3 r4 r5 r6 r7 : Option D) : ∀ (c n : Nat) (lo : Int) (acc : List D) (mu : MS), n + 2 * c ≤ 99000 → Dk k mu n →
    (∀ (qs : List Rat) (mu' : MS), qs.length = c → (∀ q ∈ qs, Ch q ∧ q.den ≤ most) → DkTo k (n + 2 * c) mu mu' → Ψ (acc ++ qs.map fr) mu') →
    wLcGo (dgName 4) wYes (wCall0 sp_law_share (wCons (wVar 0) (wCons (wVar 1) wNil))) [some (.loc k), some (.int (most : Int)), r2, r3, r4, r5, r6, r7] [4] acc (rgD lo c) mu Ψ
  | 0, n, lo, acc, mu, hn, hk, h => by
    rw [rgD_zero]
    unfold wLcGo
    have := h [] mu rfl (fun q hq => by cases hq) hk.refl
    simpa using this
  | c + 1, n, lo, acc, mu, hn, hk, h => by
    rw [rgD_succ]
    unfold wLcGo wYes
    simp only [wipeD]
    walk_at "dl"
    refine ⟨k, most, n, rfl, h0, hm, by omega, hk, fun q mu1 q1 q2 t1 => ?_⟩
    dsimp only
    refine shares_go k most h0 hm Ψ r1 r2 r3 r4 r5 r6 r7 c (n + 2) (lo + 1) _ mu1 (by omega) (t1.dk hk) fun qs mu' hl hq t' => ?_
    have := h (q :: qs) mu' (by rw [List.length_cons, hl]) (fun x hx => ?_) ((t1.trans t').mono (by omega))
    · rw [List.append_assoc]
      exact this
    · rcases List.mem_cons.mp hx with e | e
      · rw [e]; exact ⟨q1, q2⟩
      · exact hq x e
theorem rd_law_plan : ∀ ds mu Φ, sp_law_plan ds mu Φ X0 → w_law_plan (startD 8 ds) mu ⟨fun _ mu' => fin mu Φ .non mu', fin mu Φ, fun _ _ => False, fun _ _ => False⟩ X0 := by
  rintro _ mu Φ ⟨k, most, n, rfl, h0, hm, hn, hk, h⟩
  show (wSeq _ (wSeq _ w_plan_rest)) _ _ _ _
  unfold wLc wR1
  walk_at "dl"
  refine ⟨k, 5, n, rfl, by decide, by decide, by omega, hk, fun r mu1 r0 r1 t1 => ?_⟩
  walk_at "dl"
  refine ⟨by omega, by omega, by unfold rgD; rw [List.length_map, List.length_range]; omega, ?_⟩
  obtain ⟨c, hc⟩ : ∃ c : Nat, (r + 1).toNat = c + 1 ∧ c ≤ 4 := ⟨(r + 1).toNat - 1, by omega⟩
  rw [hc.1]
  refine shares_go k most h0 hm _ none none none none none none none (c + 1) (n + 1) 0 [] mu1 (by omega) (t1.dk hk) fun qs mu2 hl hq t2 => ?_
  rw [List.nil_append]
  have hne : qs ≠ [] := fun e => by rw [e] at hl; cases hl
  obtain ⟨ini, z, rfl⟩ : ∃ ini z, qs = ini ++ [z] := ⟨qs.dropLast, qs.getLast hne, (List.dropLast_concat_getLast hne).symm⟩
  rw [List.length_append, List.length_singleton] at hl
  have hz := hq z (by simp)
  have hini : ∀ q ∈ ini, Ch q ∧ q.den ≤ most := fun q h => hq q (by simp [h])
  try walk_at "dl"
  refine ⟨k, 2, n + 1 + 2 * (c + 1), rfl, by decide, by decide, by omega, (t1.trans t2).dk hk, fun s mu3 s0 s1 t3 => ?_⟩
  walk_at "dl"
  have k3 := ((t1.trans t2).trans t3).dk hk
  by_cases hs : s = 0
  · rw [if_pos (decide_eq_true hs)]
    rw [List.map_append, List.map_cons, List.map_nil, cut_last]
    have e1 : (List.replicate (((ini.map fr ++ [fr z]).length : Int) - 1).toNat [D.tup [.int 1, .int 1]]).flatten ++ [fr z] = ((List.replicate ini.length (1 : Rat)) ++ [z]).map fr := by
      rw [List.length_append, List.length_map, List.length_singleton, show (((ini.length + 1 : Nat) : Int) - 1).toNat = ini.length by omega, List.map_append]
      have : ∀ n : Nat, (List.replicate n [D.tup [.int 1, .int 1]]).flatten = (List.replicate n (1 : Rat)).map fr := fun n => by
        induction n with
        | zero => rfl
        | succ n ih => rw [List.replicate_succ, List.flatten_cons, ih]; rfl
      rw [this]
      rfl
    rw [e1]
    refine ⟨⟨by rw [List.length_append, List.length_singleton]; omega, by rw [List.length_append, List.length_map, List.length_singleton]; omega, by decide⟩, ?_, ?_⟩
    · have : (List.replicate (((ini.map fr ++ [fr z]).length : Int) - 1).toNat [D.tup [.int 1, .int 1]]).flatten.length + [fr z].length ≤ 100000 := by
        rw [← List.length_append, e1, List.length_map, List.length_append, List.length_replicate, List.length_singleton]
        omega
      exact this
    · refine rest_ok k (n + 1 + 2 * (c + 1) + 1) Φ mu mu3 _ none (List.replicate ini.length 1) z (by omega) (by rw [List.length_replicate]; omega) k3 (fun q hq => ?_) ⟨hz.1, by omega⟩ fun p mu' hp t' => h p mu' hp ((((t1.trans t2).trans t3).trans t').mono (by omega))
      have := List.eq_of_mem_replicate hq
      rw [this]
      exact ⟨⟨by decide, Rat.le_refl⟩, by decide⟩
  · rw [if_neg (by rw [decide_eq_false hs]; exact Bool.false_ne_true)]
    refine rest_ok k (n + 1 + 2 * (c + 1) + 1) Φ mu mu3 _ none ini z (by omega) (by omega) k3 (fun q hq => ⟨(hini q hq).1, by have := (hini q hq).2; omega⟩) ⟨hz.1, by omega⟩ fun p mu' hp t' => h p mu' hp ((((t1.trans t2).trans t3).trans t').mono (by omega))
end DL
set_option maxHeartbeats 4000000
/-! SPM: the laws' own helpers, further: steps, rows of chances, alike data, known plans. -/
namespace DL
open PySem PySem.Spec PyProof.Rows L2
local macro_rules | `(tactic| walk_at "dl") => `(tactic| simp only [wSeq, wAsg, wRet, wVar, wC, wOp, wUn, wTest, wChain, wTru, wAnd, wOr, wNot, wAndV, wOrV, wNotV, wIf, wNil, wCons, wTup, wLst, wLstM, wCall0, wCall, wRaise, wB, wSl, wPart, wNoPart, wNext, wDrop, wIfS, wPar, wAsgG, wSetI, wApp, dgName, dgTup, dgCons, dgNil, gt, List.set, dAdd, dSub, dMul, dFdiv, dMod, dPow, dNeg, dCmpI, dEq, dNe, dIsN, dNotN, isN, dLen, dIsi, tyD, dAbs, dMax, dMin, dInt, dBool, dTuple, dList, dIx, dSl, atI_0, atI_1, atI_2, atI_3, eqd_int, okd_int,
  List.getElem?_cons_zero, List.getElem?_cons_succ, List.length_cons, List.length_nil, startD, List.map_cons, List.map_nil, List.cons_append, List.nil_append, List.append_nil, List.replicate, List.replicate_zero, List.replicate_succ, Nat.sub_self, if_true, if_false, Bool.false_eq_true, ite_true, ite_false, reduceIte, true_and, and_true, decide_true, decide_false, Bool.not_true, Bool.not_false, Nat.reduceSub, Nat.reduceAdd])
local macro_rules | `(tactic| walk_at "ty") => `(tactic| simp only [isT_0, isT_1, isT_2, isT_3, isT_4, isT_5, isT_6, isT_7, isT_8, isT_9, isT_10, isT_11, isT_12, isT_13, isT_14, isT_15, isT_16, isT_17, isT_18, isT_19, isT_20, isT_21, isT_22, isT_23, isT_24, isT_25, isT_26, isT_27, isT_28, isT_29, memT_0, memT_1, memT_2, memT_3, memT_4, true_and, Bool.not_true, Bool.not_false])
theorem fit_mul {a b : Nat} {p q : Rat} (hp : Fit a p) (hq : Fit b q) : Fit (a + b) (p * q) := by
  have h := mk_parts (p.num * q.num) (Nat.mul_pos (den_pos' p) (den_pos' q))
  rw [← Rat.mul_def'] at h
  refine ⟨Nat.lt_of_le_of_lt h.1 ?_, Nat.lt_of_le_of_lt h.2 ?_⟩
  · rw [Nat.pow_add]
    exact Nat.mul_lt_mul'' hp.1 hq.1
  · rw [Nat.pow_add, Int.natAbs_mul]
    exact Nat.mul_lt_mul'' hp.2 hq.2
def sp_law_step : DSp := fun ds mu Φ _ => ∃ (p : Pl) (n : Nat), ds = [plD p, .int (n : Int)] ∧ PlOk p ∧ n ≤ 100 ∧ Φ (stD p n) mu
def w_law_step : DWS := (wSeq (wAsgG (dgTup 2 (dgCons (dgName 2) (dgCons (dgName 3) dgNil))) (wVar 0))
    (wSeq (wIfS (wTest (wOp (dCmpI fun i j => decide (i < j)) (wVar 1) (wB dLen (wCons (wVar 2) wNil)))) (wRet (wOp dIx (wVar 2) (wVar 1))) wNext)
    (wSeq (wPar 4 5 (wCons (wOp dIx (wVar 3) (wC (.int 0))) (wCons (wOp dIx (wVar 3) (wC (.int 2))) wNil)))
    (wSeq (wFor (wR1 (wCons (wOp dSub (wVar 1) (wB dLen (wCons (wVar 2) wNil))) wNil)) (dgName 6) (wPar 4 5 (wCons (wCall0 sp_law_times (wCons (wVar 4) (wCons (wOp dIx (wVar 3) (wC (.int 1))) wNil))) (wCons (wCall0 sp_law_times (wCons (wVar 5) (wCons (wOp dIx (wVar 3) (wC (.int 3))) wNil))) wNil))))
    (wRet (wTup (wCons (wVar 4) (wCons (wVar 5) wNil))))))))
theorem step_go (p : Pl) (hp : PlOk p) (mu : MS) (Δ : DEnds) (r0 r1 r2 r3 : Option D) (hr3 : r3 = some (.tup [fr p.c, fr p.l, fr p.g, fr p.m])) (N : Nat) (hN : N ≤ 100) : ∀ (n j : Nat) (lo : Int) (t : Option D), j + n = N → (∀ t, Δ.nx [r0, r1, r2, r3, some (fr (p.c * p.l ^ N)), some (fr (p.g * p.m ^ N)), t] mu) →
    wForGo (dgName 6) (wPar 4 5 (wCons (wCall0 sp_law_times (wCons (wVar 4) (wCons (wOp dIx (wVar 3) (wC (.int 1))) wNil))) (wCons (wCall0 sp_law_times (wCons (wVar 5) (wCons (wOp dIx (wVar 3) (wC (.int 3))) wNil))) wNil))) (rgD lo n) [r0, r1, r2, r3, some (fr (p.c * p.l ^ j)), some (fr (p.g * p.m ^ j)), t] mu Δ X0
  | 0, j, lo, t, e, h => by
    have : j = N := by omega
    subst this
    exact h t
  | n + 1, j, lo, t, e, h => by
    rw [rgD_succ]
    unfold wForGo
    subst hr3
    walk_at "dl"
    refine ⟨_, _, rfl, (fit_mul (fit_bd hp.c.2) (fit_pow hp.l.2 j)).mono (by omega), (fit_bd hp.l.2).mono (by decide), ?_⟩
    dsimp only
    refine ⟨_, _, rfl, (fit_mul (fit_bd hp.g) (fit_pow hp.m.2 j)).mono (by omega), (fit_bd hp.m.2).mono (by decide), ?_⟩
    dsimp only
    have e1 : p.c * p.l ^ j * p.l = p.c * p.l ^ (j + 1) := by rw [Rat.pow_succ, Rat.mul_assoc]
    have e2 : p.g * p.m ^ j * p.m = p.g * p.m ^ (j + 1) := by rw [Rat.pow_succ, Rat.mul_assoc]
    rw [e1, e2]
    exact step_go p hp mu Δ r0 r1 r2 _ rfl N hN n (j + 1) (lo + 1) _ (by omega) h
theorem rd_law_step : ∀ ds mu Φ, sp_law_step ds mu Φ X0 → w_law_step (startD 7 ds) mu ⟨fun _ mu' => fin mu Φ .non mu', fin mu Φ, fun _ _ => False, fun _ _ => False⟩ X0 := by
  rintro _ mu Φ ⟨p, n, rfl, hp, hn, h⟩
  unfold w_law_step plD
  walk_at "dl"
  rw [List.length_map]
  cases e : p.hd[n]? with
  | some x =>
    have hl := (List.getElem?_eq_some_iff.mp e).1
    rw [if_pos (decide_eq_true (show (n : Int) < (p.hd.length : Int) by omega)), atI_n, List.getElem?_map, e]
    dsimp only [Option.map]
    refine .inl ?_
    unfold stD ch ga at h
    rw [e] at h
    exact h
  | none =>
    have hl := List.getElem?_eq_none_iff.mp e
    rw [if_neg (by rw [decide_eq_false (show ¬ (n : Int) < (p.hd.length : Int) by omega)]; exact Bool.false_ne_true)]
    unfold wFor wR1
    walk_at "dl"
    refine ⟨by rw [List.length_map]; omega, by rw [List.length_map]; omega, ?_⟩
    have ef : ((n : Int) - ((p.hd.map prD).length : Int)).toNat = n - p.hd.length := by rw [List.length_map]; omega
    rw [ef]
    have e1 : fr p.c = fr (p.c * p.l ^ 0) := by rw [Rat.pow_zero, Rat.mul_one]
    have e2 : fr p.g = fr (p.g * p.m ^ 0) := by rw [Rat.pow_zero, Rat.mul_one]
    have := step_go p hp mu ⟨fun ρ' mu' => (wRet (wTup (wCons (wVar 4) (wCons (wVar 5) wNil)))) ρ' mu' ⟨fun _ mu' => fin mu Φ .non mu', fin mu Φ, fun _ _ => False, fun _ _ => False⟩ X0, fin mu Φ, fun _ _ => False, fun _ _ => False⟩ (some (plD p)) (some (.int (n : Int))) (some (.tup (p.hd.map prD))) _ rfl (n - p.hd.length) (by omega) (n - p.hd.length) 0 0 none (by omega) (fun t => by
      walk_at "dl"
      refine .inl ?_
      unfold stD ch ga at h
      rw [e] at h
      exact h)
    rw [← e1, ← e2] at this
    exact this
def sp_law_stay : DSp := fun ds mu Φ _ => ∃ q : Rat, ds = [fr q] ∧ Φ (fr (1 - q)) mu
def w_law_stay : DWS := (wRet (wTup (wCons (wOp dSub (wOp dIx (wVar 0) (wC (.int 1))) (wOp dIx (wVar 0) (wC (.int 0)))) (wCons (wOp dIx (wVar 0) (wC (.int 1))) wNil))))
theorem fr_stay (q : Rat) : fr (1 - q) = .tup [.int ((q.den : Int) - q.num), .int (q.den : Int)] := by
  have hr : ((q.den : Int) - q.num).natAbs.Coprime q.den := by
    have h := q.reduced
    have h2 : Int.gcd ((q.den : Int) - q.num) (q.den : Int) = 1 := by
      have h3 : (q.den : Int) - q.num = -q.num + (q.den : Int) * 1 := by omega
      rw [h3, Int.gcd_comm, Int.gcd_add_mul_left_right, Int.gcd_neg, Int.gcd_comm]
      exact gcd_fr q
    unfold Int.gcd at h2
    rw [Int.natAbs_natCast] at h2
    exact h2
  have e : (1 - q : Rat) = ⟨(q.den : Int) - q.num, q.den, q.den_nz, hr⟩ := by
    rw [Rat.mk_eq_mkRat, Rat.sub_def']
    show mkRat (1 * (q.den : Int) - q.num * ((1 : Nat) : Int)) (1 * q.den) = _
    rw [Int.one_mul, Nat.one_mul, show q.num * ((1 : Nat) : Int) = q.num from Int.mul_one _]
  unfold fr
  rw [e]
theorem rd_law_stay : ∀ ds mu Φ, sp_law_stay ds mu Φ X0 → w_law_stay (startD 1 ds) mu ⟨fun _ mu' => fin mu Φ .non mu', fin mu Φ, fun _ _ => False, fun _ _ => False⟩ X0 := by
  rintro _ mu Φ ⟨q, rfl, h⟩
  unfold w_law_stay fr
  walk_at "dl"
  rw [fr_stay] at h
  exact .inl h
/-! ### rows -/
theorem nlL_all {n : Nat} {α : Type} {f : α → D} (h : ∀ x, nl n (f x) = true) : ∀ l : List α, nlL n (l.map f) = true
  | [] => rfl
  | x :: r => by
    rw [List.map_cons]
    unfold nlL
    rw [h x, nlL_all h r]
    rfl
abbrev rowAt (p : Pl) (n : Nat) (j : Nat) : D := fr ((chs (ch p) n).getD j 0)
theorem row_all (p : Pl) (n : Nat) : (List.range (n + 1)).map (rowAt p n) = (chs (ch p) n).map fr := by
  refine List.ext_getElem? fun i => ?_
  rw [List.getElem?_map, List.getElem?_map]
  by_cases h : i < n + 1
  · rw [List.getElem?_range h, List.getElem?_eq_getElem (by rw [chs_length]; exact h)]
    show some (fr ((chs (ch p) n).getD i 0)) = some (fr _)
    rw [List.getD_eq_getElem?_getD, List.getElem?_eq_getElem (by rw [chs_length]; exact h)]
    rfl
  · rw [List.getElem?_eq_none (by rw [List.length_range]; omega), List.getElem?_eq_none (by rw [chs_length]; omega)]
    rfl
theorem last_at (p : Pl) {i j : Nat} (h : j ≤ i + 1) : atI ((chs (ch p) i).map fr ++ [D.tup [.int 0, .int 1]]) (j : Int) = some (rowAt p i j) := by
  rw [atI_n]
  by_cases hj : j < i + 1
  · rw [List.getElem?_append_left (by rw [List.length_map, chs_length]; exact hj), List.getElem?_map, List.getElem?_eq_getElem (by rw [chs_length]; exact hj)]
    show some (fr _) = some (fr ((chs (ch p) i).getD j 0))
    rw [List.getD_eq_getElem?_getD, List.getElem?_eq_getElem (by rw [chs_length]; exact hj)]
    rfl
  · have e : j = ((chs (ch p) i).map fr).length := by rw [List.length_map, chs_length]; omega
    rw [e, List.getElem?_append_right (Nat.le_refl _), Nat.sub_self]
    show some (fr 0) = some (fr ((chs (ch p) i).getD ((chs (ch p) i).map fr).length 0))
    rw [List.getD_eq_getElem?_getD, List.getElem?_eq_none (by rw [List.length_map]; exact Nat.le_refl _)]
    rfl
def stepsD (p : Pl) (m : Nat) : List D := (List.range m).map fun i => fr (ch p i)
theorem steps_at (p : Pl) {m j : Nat} (h : j < m) : atI (stepsD p m) (j : Int) = some (fr (ch p j)) := by
  rw [atI_n]
  unfold stepsD
  rw [List.getElem?_map, List.getElem?_range h]
  rfl
/-- the objects that a row's turn leaves alone -/
structure RowSt (n0 kr kw : Nat) (mu : MS) (rowsv row : List D) (S : MS) : Prop where
  a : n0 ≤ kr
  b : kr < kw
  c : kw < S.length
  t : S.take n0 = mu
  r : S[kr]? = some (.lst rowsv)
  w : S[kw]? = some (.lst row)
theorem RowSt.next {n0 kr kw : Nat} {mu : MS} {rowsv row : List D} {S : MS} (h : RowSt n0 kr kw mu rowsv row S) (v : D) : RowSt n0 kr kw mu rowsv (row ++ [v]) ((S ++ [MO.gone]).set kw (.lst (row ++ [v]))) := by
  have hb := h.b
  have ha := h.a
  have hc := h.c
  refine ⟨ha, hb, by rw [List.length_set, List.length_append]; omega, ?_, ?_, ?_⟩
  · rw [List.take_set_of_le (by omega), List.take_append_of_le_length (by omega), h.t]
  · rw [List.getElem?_set_ne (by omega), List.getElem?_append_left (by omega), h.r]
  · rw [List.getElem?_set_self (by rw [List.length_append]; omega)]
theorem row_tail {n0 kr kw : Nat} {mu : MS} {rowsv row : List D} {S : MS} (st : RowSt n0 kr kw mu rowsv row S) (hl : row.length ≤ 1000) (hs : List Rat) (so : SumOk hs) (Δ : DEnds) (r0 r1 r2 r3 r4 r5 r6 : Option D)
    (h : ∀ r8, Δ.nx [r0, r1, r2, r3, r4, r5, r6, some (.loc kw), r8] ((S ++ [MO.gone]).set kw (.lst (row ++ [fr (sumR hs)])))) :
    wFrz 8 (wApp (wVar 7) (wCall0 sp_law_sum (wCons (wVar 8) wNil))) [r0, r1, r2, r3, r4, r5, r6, some (.loc kw), some (.loc S.length)] (S ++ [.lst (hs.map fr)]) Δ X0 := by
  unfold wFrz
  walk_at "dl"
  rw [get_last]
  dsimp only
  rw [set_last, List.getElem?_append_left st.c, st.w]
  dsimp only
  refine law_sum_fr (t := false) (qs := hs) so ?_
  try dsimp only
  rw [List.getElem?_append_left st.c, st.w]
  exact ⟨by omega, h _⟩
theorem row_go (p : Pl) (hp : PlOk p) (i m : Nat) (hi : i + 1 < m) (hm : i ≤ 15) (n0 kr kw : Nat) (mu : MS) (rowsv : List D) (Δ : DEnds) (r0 r1 r5 : Option D) : ∀ (c j : Nat) (S : MS) (r3 r8 : Option D), j + c = i + 2 → RowSt n0 kr kw mu rowsv ((List.range j).map (rowAt p (i + 1))) S →
    (∀ S' r3 r8, RowSt n0 kr kw mu rowsv ((List.range (i + 2)).map (rowAt p (i + 1))) S' → Δ.nx [r0, r1, some (.lst (stepsD p m)), r3, some (.loc kr), r5, some (.lst ((chs (ch p) i).map fr ++ [D.tup [.int 0, .int 1]])), some (.loc kw), r8] S') →
    wForGo (dgName 3) (wSeq (wAsg 8 (wLstM (wCons (wCall0 sp_law_times (wCons (wOp dIx (wVar 6) (wVar 3)) (wCons (wCall0 sp_law_stay (wCons (wOp dIx (wVar 2) (wVar 3)) wNil)) wNil))) wNil)))
    (wSeq (wIfS (wTest (wOp (dCmpI fun i j => decide (j < i)) (wVar 3) (wC (.int 0)))) (wApp (wVar 8) (wCall0 sp_law_times (wCons (wOp dIx (wVar 6) (wOp dSub (wVar 3) (wC (.int 1)))) (wCons (wOp dIx (wVar 2) (wOp dSub (wVar 3) (wC (.int 1)))) wNil)))) wNext)
    (wFrz 8 (wApp (wVar 7) (wCall0 sp_law_sum (wCons (wVar 8) wNil)))))) (rgD (j : Int) c)
      [r0, r1, some (.lst (stepsD p m)), r3, some (.loc kr), r5, some (.lst ((chs (ch p) i).map fr ++ [D.tup [.int 0, .int 1]])), some (.loc kw), r8] S Δ X0
  | 0, j, S, r3, r8, e, st, h => by
    have : j = i + 2 := by omega
    subst this
    exact h S r3 r8 st
  | c + 1, j, S, r3, r8, e, st, h => by
    rw [rgD_succ]
    have hB := bas_pos p
    have hM : 0 < bas p ^ i := Nat.pow_pos hB
    have hM1 : 0 < bas p ^ (i + 1) := Nat.pow_pos hB
    have bM : bas p ^ i < 2 ^ 4400 := bas_pow hp (by omega)
    have bM1 : bas p ^ (i + 1) < 2 ^ 4400 := bas_pow hp (by omega)
    have gd : ∀ j, Gd (bas p ^ i) ((chs (ch p) i).getD j 0) := fun j => by
      rw [List.getD_eq_getElem?_getD]
      cases q : (chs (ch p) i)[j]? with
      | none => exact ⟨Rat.le_refl, by decide, isM_zero⟩
      | some x => exact chs_gd hp (by omega) x (List.mem_of_getElem? q)
    have gc := ch_ok hp j
    have ic := bas_ok (p := p) (i := j) (by omega)
    have f1 : Fit 4400 ((chs (ch p) i).getD j 0) := (gd j).fit hM bM
    have g1 : Gd (bas p) (1 - ch p j) := ⟨by have := gc.2; grind, by have := gc.1; grind, isM_sub isM_one ic⟩
    have bB : bas p < 2 ^ 4400 := Nat.lt_of_le_of_lt (bas_le hp) (by decide +kernel)
    have x0 : 0 ≤ (chs (ch p) i).getD j 0 * (1 - ch p j) := Rat.mul_nonneg (gd j).1 g1.1
    have xm : IsM (bas p ^ (i + 1)) ((chs (ch p) i).getD j 0 * (1 - ch p j)) := by rw [Nat.pow_succ]; exact isM_mul (gd j).2.2 g1.2.2
    have x1 : (chs (ch p) i).getD j 0 * (1 - ch p j) ≤ 1 := by
      have := Rat.mul_le_mul_of_nonneg_left g1.2.1 (gd j).1
      rw [Rat.mul_one] at this
      exact Rat.le_trans this (gd j).2.1
    have two1 : ((2 : Nat) : Rat) = 2 := rfl
    have b2 : 2 * bas p ^ (i + 1) < 2 ^ 4400 := by
      have h1 : bas p ^ (i + 1) ≤ (1000 ^ 25) ^ (i + 1) := Nat.pow_le_pow_left (bas_le hp) _
      have h2 : (1000 ^ 25) ^ (i + 1) ≤ (1000 ^ 25) ^ 16 := Nat.pow_le_pow_right (by decide) (by omega)
      exact Nat.lt_of_le_of_lt (Nat.mul_le_mul_left 2 (Nat.le_trans h1 h2)) (by decide +kernel)
    have ec : (j : Int) + 1 = ((j + 1 : Nat) : Int) := by omega
    unfold wForGo
    walk_at "dl"
    rw [last_at p (show j ≤ i + 1 by omega), steps_at p (show j < m by omega)]
    dsimp only
    refine ⟨_, rfl, ?_⟩
    dsimp only
    refine ⟨_, _, rfl, f1, g1.fit hB bB, ?_⟩
    dsimp only
    have hlen : ((List.range j).map (rowAt p (i + 1))).length ≤ 1000 := by rw [List.length_map, List.length_range]; omega
    have fin_ : ∀ (hs : List Rat) (t : Option D), SumOk hs → sumR hs = (chs (ch p) (i + 1)).getD j 0 →
        wFrz 8 (wApp (wVar 7) (wCall0 sp_law_sum (wCons (wVar 8) wNil))) [r0, r1, some (.lst (stepsD p m)), some (.int (j : Int)), some (.loc kr), r5, some (.lst ((chs (ch p) i).map fr ++ [D.tup [.int 0, .int 1]])), some (.loc kw), some (.loc S.length)] (S ++ [.lst (hs.map fr)])
          ⟨fun ρ2 mu2 => wForGo (dgName 3) (wSeq (wAsg 8 (wLstM (wCons (wCall0 sp_law_times (wCons (wOp dIx (wVar 6) (wVar 3)) (wCons (wCall0 sp_law_stay (wCons (wOp dIx (wVar 2) (wVar 3)) wNil)) wNil))) wNil)))
    (wSeq (wIfS (wTest (wOp (dCmpI fun i j => decide (j < i)) (wVar 3) (wC (.int 0)))) (wApp (wVar 8) (wCall0 sp_law_times (wCons (wOp dIx (wVar 6) (wOp dSub (wVar 3) (wC (.int 1)))) (wCons (wOp dIx (wVar 2) (wOp dSub (wVar 3) (wC (.int 1)))) wNil)))) wNext)
    (wFrz 8 (wApp (wVar 7) (wCall0 sp_law_sum (wCons (wVar 8) wNil)))))) (rgD ((j : Int) + 1) c) ρ2 mu2 Δ X0, Δ.rt, Δ.nx, fun ρ2 mu2 => wForGo (dgName 3) (wSeq (wAsg 8 (wLstM (wCons (wCall0 sp_law_times (wCons (wOp dIx (wVar 6) (wVar 3)) (wCons (wCall0 sp_law_stay (wCons (wOp dIx (wVar 2) (wVar 3)) wNil)) wNil))) wNil)))
    (wSeq (wIfS (wTest (wOp (dCmpI fun i j => decide (j < i)) (wVar 3) (wC (.int 0)))) (wApp (wVar 8) (wCall0 sp_law_times (wCons (wOp dIx (wVar 6) (wOp dSub (wVar 3) (wC (.int 1)))) (wCons (wOp dIx (wVar 2) (wOp dSub (wVar 3) (wC (.int 1)))) wNil)))) wNext)
    (wFrz 8 (wApp (wVar 7) (wCall0 sp_law_sum (wCons (wVar 8) wNil)))))) (rgD ((j : Int) + 1) c) ρ2 mu2 Δ X0⟩ X0 := fun hs t so hsum => by
      refine row_tail st hlen hs so _ r0 r1 _ _ _ r5 _ fun r8 => ?_
      dsimp only
      rw [ec]
      refine row_go p hp i m hi hm n0 kr kw mu rowsv Δ r0 r1 r5 c (j + 1) _ _ r8 (by omega) ?_ h
      have := st.next (fr (sumR hs))
      rw [hsum] at this ⊢
      rw [List.range_succ, List.map_append]
      exact this
    have cg := chs_get (ch p) i j
    by_cases hj : 0 < j
    · rw [if_pos (decide_eq_true (show (0 : Int) < (j : Int) by omega)), get_last]
      dsimp only
      have e1 : (j : Int) - 1 = ((j - 1 : Nat) : Int) := by omega
      rw [e1, last_at p (show j - 1 ≤ i + 1 by omega), steps_at p (show j - 1 < m by omega)]
      dsimp only
      have gc' := ch_ok hp (j - 1)
      have ic' := bas_ok (p := p) (i := j - 1) (by omega)
      refine ⟨_, _, rfl, (gd (j - 1)).fit hM bM, fit_pr hB ic' bB (Rat.le_of_lt gc'.1) gc'.2, ?_⟩
      dsimp only
      rw [get_last]
      dsimp only
      refine ⟨by simp, ?_⟩
      rw [set_last]
      rw [if_neg (by omega)] at cg
      have y0 : 0 ≤ (chs (ch p) i).getD (j - 1) 0 * ch p (j - 1) := Rat.mul_nonneg (gd (j - 1)).1 (Rat.le_of_lt gc'.1)
      have ym : IsM (bas p ^ (i + 1)) ((chs (ch p) i).getD (j - 1) 0 * ch p (j - 1)) := by rw [Nat.pow_succ]; exact isM_mul (gd (j - 1)).2.2 ic'
      have y1 : (chs (ch p) i).getD (j - 1) 0 * ch p (j - 1) ≤ 1 := by
        have := Rat.mul_le_mul_of_nonneg_left gc'.2 (gd (j - 1)).1
        rw [Rat.mul_one] at this
        exact Rat.le_trans this (gd (j - 1)).2.1
      refine fin_ [(chs (ch p) i).getD j 0 * (1 - ch p j), (chs (ch p) i).getD (j - 1) 0 * ch p (j - 1)] none ⟨bas p ^ (i + 1), bas p ^ (i + 1), hM1, fun q hq => ?_, bM1, b2⟩ ?_
      · rcases List.mem_cons.mp hq with e | e
        · rw [e]; exact Sz.unit hM1 xm x0 x1
        · rw [List.mem_singleton.mp e]; exact Sz.unit hM1 ym y0 y1
      · show _ + (_ + 0) = _
        rw [cg]
        grind
    · have j0 : j = 0 := by omega
      rw [if_neg (by rw [decide_eq_false (show ¬ (0 : Int) < (j : Int) by omega)]; exact Bool.false_ne_true)]
      rw [if_pos j0] at cg
      refine fin_ [(chs (ch p) i).getD j 0 * (1 - ch p j)] none ⟨bas p ^ (i + 1), bas p ^ (i + 1), hM1, fun q hq => ?_, bM1, by show 1 * _ < _; rw [Nat.one_mul]; exact bM1⟩ ?_
      · rw [List.mem_singleton.mp hq]; exact Sz.unit hM1 xm x0 x1
      · show _ + 0 = _
        rw [cg]
        grind
abbrev rowsD (p : Pl) (n : Nat) : List D := (List.range n).map fun i => D.lst ((chs (ch p) i).map fr)
theorem rows_go (p : Pl) (hp : PlOk p) (m : Nat) (hm : m ≤ 17) (n0 kr : Nat) (mu : MS) (Δ : DEnds) (r0 r1 : Option D) (hkr : n0 ≤ kr) : ∀ (c i : Nat) (S : MS) (r3 r5 r6 r7 r8 : Option D), i + 1 + c = m → kr < S.length → S.take n0 = mu → S[kr]? = some (.lst (rowsD p (i + 1))) →
    (∀ S' r3 r5 r6 r7 r8, kr < S'.length → S'.take n0 = mu → S'[kr]? = some (.lst (rowsD p m)) → Δ.nx [r0, r1, some (.lst (stepsD p m)), r3, some (.loc kr), r5, r6, r7, r8] S') →
    wForGo (dgName 5) (wSeq (wPar 6 7 (wCons (wOp dAdd (wOp dIx (wVar 4) (wUn dNeg (wC (.int 1)))) (wLst (wCons (wTup (wCons (wC (.int 0)) (wCons (wC (.int 1)) wNil))) wNil))) (wCons (wLstM wNil) wNil)))
    (wSeq (wFor (wR1 (wCons (wOp dAdd (wVar 5) (wC (.int 1))) wNil)) (dgName 3) (wSeq (wAsg 8 (wLstM (wCons (wCall0 sp_law_times (wCons (wOp dIx (wVar 6) (wVar 3)) (wCons (wCall0 sp_law_stay (wCons (wOp dIx (wVar 2) (wVar 3)) wNil)) wNil))) wNil)))
    (wSeq (wIfS (wTest (wOp (dCmpI fun i j => decide (j < i)) (wVar 3) (wC (.int 0)))) (wApp (wVar 8) (wCall0 sp_law_times (wCons (wOp dIx (wVar 6) (wOp dSub (wVar 3) (wC (.int 1)))) (wCons (wOp dIx (wVar 2) (wOp dSub (wVar 3) (wC (.int 1)))) wNil)))) wNext)
    (wFrz 8 (wApp (wVar 7) (wCall0 sp_law_sum (wCons (wVar 8) wNil)))))))
    (wFrz 7 (wApp (wVar 4) (wVar 7))))) (rgD ((i : Int) + 1) c) [r0, r1, some (.lst (stepsD p m)), r3, some (.loc kr), r5, r6, r7, r8] S Δ X0
  | 0, i, S, r3, r5, r6, r7, r8, e, h1, h2, h3, h => by
    have : i + 1 = m := by omega
    subst this
    exact h S r3 r5 r6 r7 r8 h1 h2 h3
  | c + 1, i, S, r3, r5, r6, r7, r8, e, h1, h2, h3, h => by
    rw [rgD_succ]
    unfold wForGo
    unfold wFor wR1
    walk_at "dl"
    rw [h3]
    dsimp only
    have el : rowsD p (i + 1) = rowsD p i ++ [D.lst ((chs (ch p) i).map fr)] := by
      show (List.range (i + 1)).map _ = _
      rw [List.range_succ, List.map_append]
      rfl
    rw [el, atI_last]
    dsimp only
    refine ⟨by rw [List.length_map, chs_length, List.length_singleton]; omega, by omega, by omega, ?_⟩
    have e2 : ((i : Int) + 1 + 1).toNat = i + 2 := by omega
    rw [e2]
    refine row_go p hp i m (by omega) (by omega) n0 kr S.length mu (rowsD p (i + 1)) _ r0 r1 _ (i + 2) 0 _ _ _ (by omega) ⟨hkr, h1, by rw [List.length_append, List.length_singleton]; omega, by rw [List.take_append_of_le_length (by omega), h2], by rw [List.getElem?_append_left h1, h3], get_last _ _⟩ fun S' r3' r8' st => ?_
    unfold wFrz
    walk_at "dl"
    rw [st.w]
    dsimp only
    have hkw := st.b
    have hkc := st.c
    rw [List.getElem?_set_ne (by omega), st.r]
    dsimp only
    refine ⟨by rw [List.length_map, List.length_range]; omega, ?_⟩
    rw [show (List.range (i + 2)).map (rowAt p (i + 1)) = (chs (ch p) (i + 1)).map fr from row_all p (i + 1)]
    have e3 : rowsD p (i + 1) ++ [D.lst ((chs (ch p) (i + 1)).map fr)] = rowsD p (i + 1 + 1) := by
      show _ = (List.range (i + 1 + 1)).map _
      rw [List.range_succ, List.map_append]
      rfl
    rw [e3]
    have ei : (i : Int) + 1 + 1 = ((i + 1 : Nat) : Int) + 1 := by omega
    rw [ei]
    refine rows_go p hp m hm n0 kr mu Δ r0 r1 hkr c (i + 1) _ _ _ _ _ _ (by omega) (by rw [List.length_set, List.length_set]; omega) ?_ (List.getElem?_set_self (by rw [List.length_set]; omega)) h
    rw [List.take_set_of_le (by omega), List.take_set_of_le (by omega), st.t]
def sp_law_rows : DSp := fun ds mu Φ _ => ∃ (p : Pl) (m : Nat), ds = [plD p, .int (m : Int)] ∧ PlOk p ∧ m ≤ 16 ∧ Φ (.lst (rowsD p (m + 1))) mu
def w_law_rows : DWS := (wSeq (wAsg 2 (wLc (wR1 (wCons (wOp dAdd (wVar 1) (wC (.int 1))) wNil)) (dgName 3) wYes (wOp dIx (wCall0 sp_law_step (wCons (wVar 0) (wCons (wVar 3) wNil))) (wC (.int 0))) [3]))
    (wSeq (wAsg 4 (wLstM (wCons (wLst (wCons (wTup (wCons (wC (.int 1)) (wCons (wC (.int 1)) wNil))) wNil)) wNil)))
    (wSeq (wFor (wR2 (wCons (wC (.int 1)) (wCons (wOp dAdd (wVar 1) (wC (.int 1))) wNil))) (dgName 5) (wSeq (wPar 6 7 (wCons (wOp dAdd (wOp dIx (wVar 4) (wUn dNeg (wC (.int 1)))) (wLst (wCons (wTup (wCons (wC (.int 0)) (wCons (wC (.int 1)) wNil))) wNil))) (wCons (wLstM wNil) wNil)))
    (wSeq (wFor (wR1 (wCons (wOp dAdd (wVar 5) (wC (.int 1))) wNil)) (dgName 3) (wSeq (wAsg 8 (wLstM (wCons (wCall0 sp_law_times (wCons (wOp dIx (wVar 6) (wVar 3)) (wCons (wCall0 sp_law_stay (wCons (wOp dIx (wVar 2) (wVar 3)) wNil)) wNil))) wNil)))
    (wSeq (wIfS (wTest (wOp (dCmpI fun i j => decide (j < i)) (wVar 3) (wC (.int 0)))) (wApp (wVar 8) (wCall0 sp_law_times (wCons (wOp dIx (wVar 6) (wOp dSub (wVar 3) (wC (.int 1)))) (wCons (wOp dIx (wVar 2) (wOp dSub (wVar 3) (wC (.int 1)))) wNil)))) wNext)
    (wFrz 8 (wApp (wVar 7) (wCall0 sp_law_sum (wCons (wVar 8) wNil)))))))
    (wFrz 7 (wApp (wVar 4) (wVar 7))))))
    (wFrz 4 (wRet (wVar 4))))))
theorem steps_go (p : Pl) (hp : PlOk p) (mu : MS) (Ψ : List D → MS → Prop) (r1 r2 r4 r5 r6 r7 r8 : Option D) : ∀ (n j : Nat) (acc : List D), j + n ≤ 18 → Ψ (acc ++ (List.range n).map fun i => fr (ch p (j + i))) mu →
    wLcGo (dgName 3) wYes (wOp dIx (wCall0 sp_law_step (wCons (wVar 0) (wCons (wVar 3) wNil))) (wC (.int 0))) [some (plD p), r1, r2, none, r4, r5, r6, r7, r8] [3] acc (rgD (j : Int) n) mu Ψ
  | 0, j, acc, hj, h => by
    rw [rgD_zero]
    unfold wLcGo
    simpa using h
  | n + 1, j, acc, hj, h => by
    rw [rgD_succ]
    unfold wLcGo wYes
    simp only [wipeD]
    walk_at "dl"
    refine ⟨p, j, rfl, hp, by omega, ?_⟩
    unfold stD
    walk_at "dl"
    have e1 : (j : Int) + 1 = ((j + 1 : Nat) : Int) := by omega
    rw [e1]
    refine steps_go p hp mu Ψ r1 r2 r4 r5 r6 r7 r8 n (j + 1) _ (by omega) ?_
    rw [List.range_succ_eq_map, List.map_cons, List.map_map] at h
    rw [List.append_assoc]
    have e2 : ((fun i => fr (ch p (j + i))) ∘ Nat.succ) = fun i => fr (ch p (j + 1 + i)) := by
      funext i
      show fr (ch p (j + (i + 1))) = _
      rw [show j + (i + 1) = j + 1 + i by omega]
    rw [e2] at h
    exact h
theorem rd_law_rows : ∀ ds mu Φ, sp_law_rows ds mu Φ X0 → w_law_rows (startD 9 ds) mu ⟨fun _ mu' => fin mu Φ .non mu', fin mu Φ, fun _ _ => False, fun _ _ => False⟩ X0 := by
  rintro _ mu Φ ⟨p, m, rfl, hp, hm, h⟩
  unfold w_law_rows wLc wR1
  walk_at "dl"
  refine ⟨by omega, by omega, by unfold rgD; rw [List.length_map, List.length_range]; omega, ?_⟩
  have e1 : ((m : Int) + 1).toNat = m + 1 := by omega
  rw [e1]
  refine steps_go p hp mu _ _ none none none none none none (m + 1) 0 [] (by omega) ?_
  rw [List.nil_append]
  unfold wFor wR2
  walk_at "dl"
  refine ⟨⟨by omega, by omega, by omega, by omega⟩, ?_⟩
  have e2 : ((m : Int) + 1 - 1).toNat = m := by omega
  rw [e2]
  have e3 : ((List.range (m + 1)).map fun i => fr (ch p (0 + i))) = stepsD p (m + 1) := by
    unfold stepsD
    refine List.map_congr_left fun i _ => ?_
    rw [Nat.zero_add]
  rw [e3]
  refine rows_go p hp (m + 1) (by omega) mu.length mu.length mu _ _ _ (Nat.le_refl _) m 0 _ _ none none none none (by omega) (by rw [List.length_append, List.length_singleton]; omega) (List.take_left' rfl) (get_last _ _) fun S r3 r5 r6 r7 r8 h1 h2 h3 => ?_
  unfold wFrz
  walk_at "dl"
  rw [h3]
  dsimp only
  refine .inr ⟨mu.length, Nat.le_refl _, ?_, ?_, ?_⟩
  · unfold nl
    exact nlL_all (fun i => by unfold nl; exact nlL_all (fun q => rfl) _) _
  · intro o ho
    rw [List.take_set_of_le (Nat.le_refl _), h2] at ho
    exact .inl ho
  · rw [List.take_set_of_le (Nat.le_refl _), h2]
    exact h
/-! ### alike data -/
def sortD : D → Int
  | .bl _ => 1
  | .int _ => 2
  | .str _ => 3
  | .lst _ => 4
  | .tup _ => 5
  | _ => 6
def sp_law_sort : DSp := fun ds mu Φ _ => ∃ d : D, ds = [d] ∧ pl d = true ∧ Φ (.int (sortD d)) mu
def w_law_sort : DWS := (wSeq (wIfS (wTest (wB dIsi (wCons (wVar 0) (wCons (wC (.ty "bool")) wNil)))) (wRet (wC (.int 1))) wNext)
    (wSeq (wIfS (wTest (wB dIsi (wCons (wVar 0) (wCons (wC (.ty "int")) wNil)))) (wRet (wC (.int 2))) wNext)
    (wSeq (wIfS (wTest (wB dIsi (wCons (wVar 0) (wCons (wC (.ty "str")) wNil)))) (wRet (wC (.int 3))) wNext)
    (wSeq (wIfS (wTest (wB dIsi (wCons (wVar 0) (wCons (wC (.ty "list")) wNil)))) (wRet (wC (.int 4))) wNext)
    (wRet (wIf (wTest (wB dIsi (wCons (wVar 0) (wCons (wC (.ty "tuple")) wNil)))) (wC (.int 5)) (wC (.int 6))))))))
theorem rd_law_sort : ∀ ds mu Φ, sp_law_sort ds mu Φ X0 → w_law_sort (startD 1 ds) mu ⟨fun _ mu' => fin mu Φ .non mu', fin mu Φ, fun _ _ => False, fun _ _ => False⟩ X0 := by
  rintro _ mu Φ ⟨d, rfl, hd, h⟩
  unfold w_law_sort
  cases d <;> first | (cases hd; done) | skip
  all_goals walk_at "dl"
  all_goals walk_at "ty"
  all_goals try walk_at "dl"
  all_goals exact .inl h
def shl : Nat → D → Bool
  | 0, _ => false
  | n + 1, .tup xs => decide (xs.length ≤ 1000) && xs.all (shl n)
  | n + 1, .lst xs => decide (xs.length ≤ 1000) && xs.all (shl n)
  | _ + 1, .non => true
  | _ + 1, .bl _ => true
  | _ + 1, .int _ => true
  | _ + 1, .str x => okd (.str x)
  | _ + 1, _ => false
theorem shl_pl : ∀ {n : Nat} {d : D}, shl n d = true → pl d = true
  | 0, _, h => by cases h
  | n + 1, .tup xs, h => by
    unfold shl at h
    rw [Bool.and_eq_true, List.all_eq_true] at h
    unfold pl
    have : ∀ l : List D, (∀ x ∈ l, shl n x = true) → plL l = true := fun l => by
      induction l with
      | nil => intro _; rfl
      | cons x r ih =>
        intro hx
        unfold plL
        rw [shl_pl (hx x List.mem_cons_self), ih fun y hy => hx y (List.mem_cons_of_mem _ hy)]
        rfl
    exact this xs h.2
  | n + 1, .lst xs, h => by
    unfold shl at h
    rw [Bool.and_eq_true, List.all_eq_true] at h
    unfold pl
    have : ∀ l : List D, (∀ x ∈ l, shl n x = true) → plL l = true := fun l => by
      induction l with
      | nil => intro _; rfl
      | cons x r ih =>
        intro hx
        unfold plL
        rw [shl_pl (hx x List.mem_cons_self), ih fun y hy => hx y (List.mem_cons_of_mem _ hy)]
        rfl
    exact this xs h.2
  | _ + 1, .non, _ => rfl
  | _ + 1, .bl _, _ => rfl
  | _ + 1, .int _, _ => rfl
  | _ + 1, .str _, _ => rfl
def sp_law_same (n : Nat) : DSp := fun ds mu Φ _ => ∃ d : D, ds = [d, d] ∧ shl n d = true ∧ Φ (.bl true) mu
def w_law_same (n : Nat) : DWS := (wSeq (wIfS (wTest (wOp dNe (wCall0 sp_law_sort (wCons (wVar 0) wNil)) (wCall0 sp_law_sort (wCons (wVar 1) wNil)))) (wRet (wC (.bl false))) wNext)
    (wSeq (wIfS (wAnd (wTest (wOp (dCmpI fun i j => decide (j < i)) (wCall0 sp_law_sort (wCons (wVar 0) wNil)) (wC (.int 3)))) (wTest (wOp (dCmpI fun i j => decide (i < j)) (wCall0 sp_law_sort (wCons (wVar 0) wNil)) (wC (.int 6))))) (wSeq (wIfS (wTest (wOp dNe (wB dLen (wCons (wVar 0) wNil)) (wB dLen (wCons (wVar 1) wNil)))) (wRet (wC (.bl false))) wNext)
    (wRet (wOp dEq (wLc (wEnA (wCons (wVar 0) wNil)) (dgTup 2 (dgCons (dgName 2) (dgCons (dgName 3) dgNil))) (wNot (wTest (wCall0 (sp_law_same n) (wCons (wVar 3) (wCons (wOp dIx (wVar 1) (wVar 2)) wNil))))) (wVar 2) [2, 3]) (wLst wNil)))) wNext)
    (wRet (wOp dEq (wVar 0) (wVar 1)))))
theorem same_go (n : Nat) (mu : MS) (Ψ : List D → MS → Prop) (r0 : Option D) (dd : D) (all : List D) (hdd : dd = .tup all ∨ dd = .lst all) : ∀ (xs pre : List D), all = pre ++ xs → (∀ x ∈ xs, shl n x = true) → Ψ [] mu →
    wLcGo (dgTup 2 (dgCons (dgName 2) (dgCons (dgName 3) dgNil))) (wNot (wTest (wCall0 (sp_law_same n) (wCons (wVar 3) (wCons (wOp dIx (wVar 1) (wVar 2)) wNil))))) (wVar 2) [r0, some dd, none, none] [2, 3] [] (enD pre.length xs) mu Ψ
  | [], pre, e, hx, h => h
  | x :: xs, pre, e, hx, h => by
    show wLcGo _ _ _ _ _ _ (.tup [.int (pre.length : Int), x] :: enD (pre.length + 1) xs) _ _
    unfold wLcGo
    simp only [wipeD]
    walk_at "dl"
    have hat : atI all (pre.length : Int) = some x := by
      rw [atI_n, e, List.getElem?_append_right (Nat.le_refl _), Nat.sub_self]
      rfl
    have go : sp_law_same n [x, x] mu (fun d mu1 => match d with | .bl b => if (!b) = true then (match gt [r0, some dd, some (.int (pre.length : Int)), some x] 2 with | some d => wLcGo (dgTup 2 (dgCons (dgName 2) (dgCons (dgName 3) dgNil))) (wNot (wTest (wCall0 (sp_law_same n) (wCons (wVar 3) (wCons (wOp dIx (wVar 1) (wVar 2)) wNil))))) (wVar 2) [r0, some dd, none, none] [2, 3] ([] ++ [d]) (enD (pre.length + 1) xs) mu1 Ψ | none => False) else wLcGo (dgTup 2 (dgCons (dgName 2) (dgCons (dgName 3) dgNil))) (wNot (wTest (wCall0 (sp_law_same n) (wCons (wVar 3) (wCons (wOp dIx (wVar 1) (wVar 2)) wNil))))) (wVar 2) [r0, some dd, none, none] [2, 3] [] (enD (pre.length + 1) xs) mu1 Ψ | _ => False) X0 := by
      refine ⟨x, rfl, hx x List.mem_cons_self, ?_⟩
      dsimp only
      rw [if_neg (by decide)]
      have hl : pre.length + 1 = (pre ++ [x]).length := by simp
      rw [hl]
      exact same_go n mu Ψ r0 dd all hdd xs (pre ++ [x]) (by rw [e, List.append_assoc]; rfl) (fun y hy => hx y (List.mem_cons_of_mem _ hy)) h
    rcases hdd with rfl | rfl
    · dsimp only
      rw [hat]
      exact go
    · dsimp only
      rw [hat]
      exact go
theorem rd_law_same (n : Nat) : ∀ ds mu Φ, sp_law_same (n + 1) ds mu Φ X0 → w_law_same n (startD 4 ds) mu ⟨fun _ mu' => fin mu Φ .non mu', fin mu Φ, fun _ _ => False, fun _ _ => False⟩ X0 := by
  rintro _ mu Φ ⟨d, rfl, hd, h⟩
  have hp := shl_pl hd
  unfold w_law_same
  walk_at "dl"
  refine ⟨d, rfl, hp, ?_⟩
  dsimp only
  refine ⟨d, rfl, hp, ?_⟩
  dsimp only
  refine ⟨rfl, rfl, ?_⟩
  rw [eqd_int, decide_eq_true rfl, if_neg (by decide)]
  refine ⟨d, rfl, hp, ?_⟩
  dsimp only
  cases d with
  | tup xs =>
    unfold shl at hd
    rw [Bool.and_eq_true, decide_eq_true_eq, List.all_eq_true] at hd
    rw [if_pos (by show (decide ((3 : Int) < 5)) = true; decide)]
    refine ⟨.tup xs, rfl, hp, ?_⟩
    dsimp only
    rw [if_pos (by show (decide ((5 : Int) < 6)) = true; decide)]
    rw [if_neg (by rw [decide_eq_true rfl]; decide)]
    unfold wLc wEnA
    walk_at "dl"
    refine ⟨by rw [enD_length]; omega, same_go n mu _ _ (.tup xs) xs (.inl rfl) xs [] rfl hd.2 ?_⟩
    exact ⟨rfl, rfl, .inl h⟩
  | lst xs =>
    unfold shl at hd
    rw [Bool.and_eq_true, decide_eq_true_eq, List.all_eq_true] at hd
    rw [if_pos (by show (decide ((3 : Int) < 4)) = true; decide)]
    refine ⟨.lst xs, rfl, hp, ?_⟩
    dsimp only
    rw [if_pos (by show (decide ((4 : Int) < 6)) = true; decide)]
    rw [if_neg (by rw [decide_eq_true rfl]; decide)]
    unfold wLc wEnA
    walk_at "dl"
    refine ⟨by rw [enD_length]; omega, same_go n mu _ _ (.lst xs) xs (.inr rfl) xs [] rfl hd.2 ?_⟩
    exact ⟨rfl, rfl, .inl h⟩
  | non =>
    rw [if_pos (by show (decide ((3 : Int) < 6)) = true; decide)]
    refine ⟨.non, rfl, hp, ?_⟩
    dsimp only
    rw [if_neg (by show ¬ (decide ((6 : Int) < 6)) = true; decide)]
    exact ⟨rfl, rfl, .inl h⟩
  | bl b =>
    rw [if_neg (by show ¬ (decide ((3 : Int) < 1)) = true; decide)]
    refine ⟨rfl, rfl, .inl ?_⟩
    cases b <;> exact h
  | int b =>
    rw [if_neg (by show ¬ (decide ((3 : Int) < 2)) = true; decide)]
    refine ⟨rfl, rfl, .inl ?_⟩
    rw [eqd_int, decide_eq_true rfl]
    exact h
  | str b =>
    rw [if_neg (by show ¬ (decide ((3 : Int) < 3)) = true; decide)]
    have ho : okd (.str b) = true := hd
    refine ⟨ho, ho, .inl ?_⟩
    have e : eqd (.str b) (.str b) = true := by
      show (b == b) = true
      exact beq_self_eq_true _
    rw [e]
    exact h
  | _ => cases hp
end DL
set_option maxHeartbeats 400000
/-! SPN: the plans that the laws know. -/
namespace DL
open PySem PySem.Spec PyProof.Rows L2
local macro_rules | `(tactic| walk_at "dl") => `(tactic| simp only [wSeq, wAsg, wRet, wVar, wC, wOp, wUn, wTest, wChain, wTru, wAnd, wOr, wNot, wAndV, wOrV, wNotV, wIf, wNil, wCons, wTup, wLst, wLstM, wCall0, wCall, wRaise, wB, wSl, wPart, wNoPart, wNext, wDrop, wIfS, wPar, wAsgG, wSetI, wApp, dgName, dgTup, dgCons, dgNil, gt, List.set, dAdd, dSub, dMul, dFdiv, dMod, dPow, dNeg, dCmpI, dEq, dNe, dIsN, dNotN, isN, dLen, dIsi, tyD, dAbs, dMax, dMin, dInt, dBool, dTuple, dList, dIx, dSl, atI_0, atI_1, atI_2, atI_3, eqd_int, okd_int,
  List.getElem?_cons_zero, List.getElem?_cons_succ, List.length_cons, List.length_nil, startD, List.map_cons, List.map_nil, List.cons_append, List.nil_append, List.append_nil, List.replicate, List.replicate_zero, List.replicate_succ, Nat.sub_self, if_true, if_false, Bool.false_eq_true, ite_true, ite_false, reduceIte, true_and, and_true, decide_true, decide_false, Bool.not_true, Bool.not_false, Nat.reduceSub, Nat.reduceAdd])
local macro_rules | `(tactic| walk_at "ty") => `(tactic| simp only [isT_0, isT_1, isT_2, isT_3, isT_4, isT_5, isT_6, isT_7, isT_8, isT_9, isT_10, isT_11, isT_12, isT_13, isT_14, isT_15, isT_16, isT_17, isT_18, isT_19, isT_20, isT_21, isT_22, isT_23, isT_24, isT_25, isT_26, isT_27, isT_28, isT_29, memT_0, memT_1, memT_2, memT_3, memT_4, true_and, Bool.not_true, Bool.not_false])
/-! ### known plans -/
def q12 : Rat := ⟨1, 2, by decide, by decide⟩
def q13 : Rat := ⟨1, 3, by decide, by decide⟩
def q2 : Rat := ⟨2, 1, by decide, by decide⟩
def q3 : Rat := ⟨3, 1, by decide, by decide⟩
def plA : Pl := ⟨[], 1, q12, 1, q2⟩
def plB : Pl := ⟨[(1, 1), (1, 1)], q13, 1, q3, 1⟩
def plC : Pl := ⟨[(q12, q2)], q12, q12, q2, 1⟩
abbrev d1 : D := .tup [.int 1, .int 1]
abbrev d12 : D := .tup [.int 1, .int 2]
abbrev d13 : D := .tup [.int 1, .int 3]
abbrev d2 : D := .tup [.int 2, .int 1]
abbrev d3 : D := .tup [.int 3, .int 1]
theorem e_1 : d1 = fr 1 := rfl
theorem e_12 : d12 = fr q12 := rfl
theorem e_13 : d13 = fr q13 := rfl
theorem e_2 : d2 = fr q2 := rfl
theorem e_3 : d3 = fr q3 := rfl
theorem e_A : D.tup [.tup [], .tup [d1, d12, d1, d2]] = plD plA := by rw [e_1, e_12, e_2]; rfl
theorem e_B : D.tup [.tup [.tup [d1, d1], .tup [d1, d1]], .tup [d13, d1, d3, d1]] = plD plB := by rw [e_1, e_13, e_3]; rfl
theorem e_C : D.tup [.tup [.tup [d12, d2]], .tup [d12, d12, d2, d1]] = plD plC := by rw [e_1, e_12, e_2]; rfl
def sp_law_known : DSp := fun ds mu Φ _ => ds = [] ∧ Φ (.tup [plD plA, plD plB, plD plC]) mu
def w_law_known : DWS := (wSeq (wAsg 0 (wTup (wCons (wC (.int 1)) (wCons (wC (.int 1)) wNil))))
    (wSeq (wAsg 1 (wTup (wCons (wTup wNil) (wCons (wTup (wCons (wVar 0) (wCons (wTup (wCons (wC (.int 1)) (wCons (wC (.int 2)) wNil))) (wCons (wVar 0) (wCons (wTup (wCons (wC (.int 2)) (wCons (wC (.int 1)) wNil))) wNil))))) wNil))))
    (wSeq (wAsg 2 (wTup (wCons (wTup (wCons (wTup (wCons (wVar 0) (wCons (wVar 0) wNil))) (wCons (wTup (wCons (wVar 0) (wCons (wVar 0) wNil))) wNil))) (wCons (wTup (wCons (wTup (wCons (wC (.int 1)) (wCons (wC (.int 3)) wNil))) (wCons (wVar 0) (wCons (wTup (wCons (wC (.int 3)) (wCons (wC (.int 1)) wNil))) (wCons (wVar 0) wNil))))) wNil))))
    (wRet (wTup (wCons (wVar 1) (wCons (wVar 2) (wCons (wTup (wCons (wTup (wCons (wTup (wCons (wTup (wCons (wC (.int 1)) (wCons (wC (.int 2)) wNil))) (wCons (wTup (wCons (wC (.int 2)) (wCons (wC (.int 1)) wNil))) wNil))) wNil)) (wCons (wTup (wCons (wTup (wCons (wC (.int 1)) (wCons (wC (.int 2)) wNil))) (wCons (wTup (wCons (wC (.int 1)) (wCons (wC (.int 2)) wNil))) (wCons (wTup (wCons (wC (.int 2)) (wCons (wC (.int 1)) wNil))) (wCons (wVar 0) wNil))))) wNil))) wNil))))))))
theorem rd_law_known : ∀ ds mu Φ, sp_law_known ds mu Φ X0 → w_law_known (startD 3 ds) mu ⟨fun _ mu' => fin mu Φ .non mu', fin mu Φ, fun _ _ => False, fun _ _ => False⟩ X0 := by
  rintro _ mu Φ ⟨rfl, h⟩
  have h : fin mu Φ (.tup [D.tup [.tup [], .tup [d1, d12, d1, d2]], D.tup [.tup [.tup [d1, d1], .tup [d1, d1]], .tup [d13, d1, d3, d1]], D.tup [.tup [.tup [d12, d2]], .tup [d12, d12, d2, d1]]]) mu := by
    rw [e_A, e_B, e_C]
    exact .inl h
  exact h
theorem bd_1 : Bd 1 := ⟨by decide, by decide⟩
theorem bd_12 : Bd q12 := ⟨by decide, by decide⟩
theorem bd_13 : Bd q13 := ⟨by decide, by decide⟩
theorem bd_2 : Bd q2 := ⟨by decide, by decide⟩
theorem bd_3 : Bd q3 := ⟨by decide, by decide⟩
theorem ch_1 : Ch 1 := ⟨by decide, Rat.le_refl⟩
theorem ch_12 : Ch q12 := ⟨pos_num.mpr (by decide), le_one.mpr (by decide)⟩
theorem ch_13 : Ch q13 := ⟨pos_num.mpr (by decide), le_one.mpr (by decide)⟩
theorem nn {q : Rat} (h : 0 ≤ q.num) : 0 ≤ q := Rat.num_nonneg.mp h
theorem ok_plA : PlOk plA := ⟨by show 0 ≤ 4; decide, fun x hx => (by cases hx), ⟨ch_1, bd_1⟩, ⟨ch_12, bd_12⟩, bd_1, ⟨nn (by decide), bd_2⟩⟩
theorem ok_plB : PlOk plB := ⟨by show 2 ≤ 4; decide, fun x hx => (by
  have e : x = (1, 1) := by
    rcases List.mem_cons.mp hx with e | e
    · exact e
    · exact List.mem_singleton.mp e
  rw [e]
  exact ⟨ch_1, bd_1, bd_1⟩), ⟨ch_13, bd_13⟩, ⟨ch_1, bd_1⟩, bd_3, ⟨nn (by decide), bd_1⟩⟩
theorem ok_plC : PlOk plC := ⟨by show 1 ≤ 4; decide, fun x hx => (by
  rw [List.mem_singleton.mp hx]
  exact ⟨ch_12, bd_12, bd_2⟩), ⟨ch_12, bd_12⟩, ⟨ch_12, bd_12⟩, bd_2, ⟨nn (by decide), bd_1⟩⟩
end DL
set_option maxHeartbeats 4000000
/-! SPK: how a law names what has been raised. -/
namespace DL
open PySem PySem.Spec PyProof.Rows L2
local macro_rules | `(tactic| walk_at "dl") => `(tactic| simp only [wSeq, wAsg, wRet, wVar, wC, wOp, wUn, wTest, wChain, wTru, wAnd, wOr, wNot, wAndV, wOrV, wNotV, wIf, wNil, wCons, wTup, wLst, wLstM, wCall0, wCall, wRaise, wB, wSl, wPart, wNoPart, wNext, wDrop, wIfS, wPar, wAsgG, wSetI, wApp, dgName, dgTup, dgCons, dgNil, gt, List.set, dAdd, dSub, dMul, dFdiv, dMod, dPow, dNeg, dCmpI, dEq, dNe, dIsN, dNotN, isN, dLen, dIsi, tyD, dAbs, dMax, dMin, dInt, dBool, dTuple, dList, dIx, dSl, atI_0, atI_1, atI_2, atI_3, eqd_int, okd_int,
  List.getElem?_cons_zero, List.getElem?_cons_succ, List.length_cons, List.length_nil, startD, List.map_cons, List.map_nil, List.cons_append, List.nil_append, List.append_nil, List.replicate, List.replicate_zero, List.replicate_succ, Nat.sub_self, if_true, if_false, Bool.false_eq_true, ite_true, ite_false, reduceIte, true_and, and_true, decide_true, decide_false, Bool.not_true, Bool.not_false, Nat.reduceSub, Nat.reduceAdd])
local macro_rules | `(tactic| walk_at "ty") => `(tactic| simp only [isT_0, isT_1, isT_2, isT_3, isT_4, isT_5, isT_6, isT_7, isT_8, isT_9, isT_10, isT_11, isT_12, isT_13, isT_14, isT_15, isT_16, isT_17, isT_18, isT_19, isT_20, isT_21, isT_22, isT_23, isT_24, isT_25, isT_26, isT_27, isT_28, isT_29, memT_0, memT_1, memT_2, memT_3, memT_4, true_and, Bool.not_true, Bool.not_false])
def w_law_kin (K : PySem.W.Frag) (mg : Str → Option Value) (cls : Value) (a : Addr) : DWS := (wSeq (wAsg 1 (wLstM (wCons (wB (dIsE K cls a) (wCons (wVar 0) (wCons (wC (clD mg "InvalidPlan")) wNil))) (wCons (wB (dIsE K cls a) (wCons (wVar 0) (wCons (wC (clD mg "InvalidLevel")) wNil))) (wCons (wB (dIsE K cls a) (wCons (wVar 0) (wCons (wC (clD mg "InvalidCount")) wNil))) wNil)))))
    (wSeq (wFrz 1 (wAsg 1 (wOp dAddM (wVar 1) (wLst (wCons (wB (dIsE K cls a) (wCons (wVar 0) (wCons (wC (clD mg "InvalidLog")) wNil))) (wCons (wB (dIsE K cls a) (wCons (wVar 0) (wCons (wC (clD mg "InvalidText")) wNil))) wNil))))))
    (wSeq (wFrz 1 (wAsg 1 (wOp dAddM (wVar 1) (wLst (wCons (wB (dIsE K cls a) (wCons (wVar 0) (wCons (wC (clD mg "InvalidFactor")) wNil))) (wCons (wB (dIsE K cls a) (wCons (wVar 0) (wCons (wC (clD mg "InvalidPair")) wNil))) wNil))))))
    (wSeq (wFrz 1 (wAsg 1 (wOp dAddM (wVar 1) (wLst (wCons (wB (dIsE K cls a) (wCons (wVar 0) (wCons (wC (clD mg "InvalidDraw")) wNil))) (wCons (wB (dIsE K cls a) (wCons (wVar 0) (wCons (wC (clD mg "InvalidDraws")) wNil))) wNil))))))
    (wSeq (wFrz 1 (wAsg 1 (wOp dAddM (wVar 1) (wLst (wCons (wB (dIsE K cls a) (wCons (wVar 0) (wCons (wC (clD mg "NotSmooth")) wNil))) (wCons (wB (dIsE K cls a) (wCons (wVar 0) (wCons (wC (clD mg "NotFalling")) wNil))) (wCons (wB (dIsE K cls a) (wCons (wVar 0) (wCons (wC (clD mg "Unlike")) wNil))) wNil)))))))
    (wSeq (wFrz 1 (wAsg 1 (wOp dAddM (wVar 1) (wLst (wCons (wB (dIsE K cls a) (wCons (wVar 0) (wCons (wC (clD mg "NothingToUndo")) wNil))) (wCons (wB (dIsE K cls a) (wCons (wVar 0) (wCons (wC (clD mg "TooMany")) wNil))) wNil))))))
    (wSeq (wApp (wVar 1) (wB (dIsE K cls a) (wCons (wVar 0) (wCons (wC (.ty "ValueError")) wNil))))
    (wSeq (wAsg 2 (wC (.str "plan level count log text factor pair draw draws smooth falling unlike undo many +")))
    (wFrz 1 (wRet (wJoin (wC (.str " ")) (wLc (wZpL (wCons (wSplit (wVar 2) (wC (.str " "))) (wCons (wVar 1) wNil))) (dgTup 2 (dgCons (dgName 3) (dgCons (dgName 4) dgNil))) (wTru (wVar 4)) (wVar 3) [3, 4]))))))))))))
def kinF : Str × Bool → Option Str := fun p => if p.2 then some p.1 else none
theorem kin_sum : ∀ (ls : List Str) (bs : List Bool), (((ls.zip bs).filterMap kinF).map (·.length)).sum ≤ (ls.map (·.length)).sum ∧ ((ls.zip bs).filterMap kinF).length ≤ ls.length
  | [], bs => ⟨by simp, by simp⟩
  | l :: ls, [] => ⟨by simp, by simp⟩
  | l :: ls, b :: bs => by
    obtain ⟨h1, h2⟩ := kin_sum ls bs
    cases b with
    | true =>
      show ((l :: (ls.zip bs).filterMap kinF).map (·.length)).sum ≤ _ ∧ (l :: (ls.zip bs).filterMap kinF).length ≤ _
      simp only [List.map_cons, List.sum_cons, List.length_cons]
      omega
    | false =>
      show (((ls.zip bs).filterMap kinF).map (·.length)).sum ≤ _ ∧ ((ls.zip bs).filterMap kinF).length ≤ _
      simp only [List.map_cons, List.sum_cons, List.length_cons]
      omega
theorem kin_go (mu : MS) (Ψ : List D → MS → Prop) (r0 r1 r2 : Option D) : ∀ (ls : List Str) (bs : List Bool) (acc : List D), Ψ (acc ++ ((ls.zip bs).filterMap kinF).map D.str) mu →
    wLcGo (dgTup 2 (dgCons (dgName 3) (dgCons (dgName 4) dgNil))) (wTru (wVar 4)) (wVar 3) [r0, r1, r2, none, none] [3, 4] acc (zpD (ls.map D.str) (bs.map D.bl)) mu Ψ
  | [], bs, acc, h => by
    show Ψ acc mu
    simpa using h
  | l :: ls, [], acc, h => by
    show Ψ acc mu
    simpa using h
  | l :: ls, b :: bs, acc, h => by
    show wLcGo _ _ _ _ _ _ (.tup [.str l, .bl b] :: zpD (ls.map D.str) (bs.map D.bl)) _ _
    unfold wLcGo wTru
    simp only [wipeD]
    walk_at "dl"
    cases b with
    | true =>
      show wLcGo _ _ _ _ _ _ _ _ _
      refine kin_go mu Ψ r0 r1 r2 ls bs _ ?_
      rw [List.append_assoc]
      exact h
    | false =>
      show wLcGo _ _ _ _ _ _ _ _ _
      exact kin_go mu Ψ r0 r1 r2 ls bs acc h
theorem kin_split : Txt.split "plan level count log text factor pair draw draws smooth falling unlike undo many +" " " = kinLabels := by decide +kernel
theorem getD_lst {α : Type} (l : List α) (x : α) (mu : List α) : True := trivial
theorem rd_law_kin (K : PySem.W.Frag) (mg : Str → Option Value) : ∀ D0 a txt mu Φ, KinR K mg D0 txt → Φ (.str txt) mu → w_law_kin K mg (.ref D0) a (startD 5 [.ref a]) mu ⟨fun _ mu' => fin mu Φ .non mu', fin mu Φ, fun _ _ => False, fun _ _ => False⟩ X0 := by
  rintro D0 a _ mu Φ ⟨bs, hl, hc, hv, rfl⟩ h
  match bs, hl with
  | [b0, b1, b2, b3, b4, b5, b6, b7, b8, b9, b10, b11, b12, b13, b14], _ =>
    obtain ⟨v0, x0, y0⟩ := hc 0 "InvalidPlan" rfl
    obtain ⟨v1, x1, y1⟩ := hc 1 "InvalidLevel" rfl
    obtain ⟨v2, x2, y2⟩ := hc 2 "InvalidCount" rfl
    obtain ⟨v3, x3, y3⟩ := hc 3 "InvalidLog" rfl
    obtain ⟨v4, x4, y4⟩ := hc 4 "InvalidText" rfl
    obtain ⟨v5, x5, y5⟩ := hc 5 "InvalidFactor" rfl
    obtain ⟨v6, x6, y6⟩ := hc 6 "InvalidPair" rfl
    obtain ⟨v7, x7, y7⟩ := hc 7 "InvalidDraw" rfl
    obtain ⟨v8, x8, y8⟩ := hc 8 "InvalidDraws" rfl
    obtain ⟨v9, x9, y9⟩ := hc 9 "NotSmooth" rfl
    obtain ⟨v10, x10, y10⟩ := hc 10 "NotFalling" rfl
    obtain ⟨v11, x11, y11⟩ := hc 11 "Unlike" rfl
    obtain ⟨v12, x12, y12⟩ := hc 12 "NothingToUndo" rfl
    obtain ⟨v13, x13, y13⟩ := hc 13 "TooMany" rfl
    unfold w_law_kin dIsE wFrz dAddM
    walk_at "dl"
    refine ⟨v0, b0, x0, y0, v1, b1, x1, y1, v2, b2, x2, y2, ?_⟩
    try simp only [get_last, set_last]
    refine ⟨v3, b3, x3, y3, v4, b4, x4, y4, by simp, ?_⟩
    try simp only [get_last, set_last]
    refine ⟨v5, b5, x5, y5, v6, b6, x6, y6, by simp, ?_⟩
    try simp only [get_last, set_last]
    refine ⟨v7, b7, x7, y7, v8, b8, x8, y8, by simp, ?_⟩
    try simp only [get_last, set_last]
    refine ⟨v9, b9, x9, y9, v10, b10, x10, y10, v11, b11, x11, y11, by simp, ?_⟩
    try simp only [get_last, set_last]
    refine ⟨v12, b12, x12, y12, v13, b13, x13, y13, by simp, ?_⟩
    try simp only [get_last, set_last]
    refine ⟨.type "ValueError", b14, rfl, hv, ?_⟩
    try simp only [get_last, set_last]
    refine ⟨by simp, ?_⟩
    try simp only [get_last, set_last]
    unfold wJoin wLc wZpL wSplit
    walk_at "dl"
    refine ⟨by decide +kernel, by decide +kernel, ?_⟩
    rw [kin_split]
    have e : [D.bl b0, D.bl b1, D.bl b2, D.bl b3, D.bl b4, D.bl b5, D.bl b6, D.bl b7, D.bl b8, D.bl b9, D.bl b10, D.bl b11, D.bl b12, D.bl b13, D.bl b14] = [b0, b1, b2, b3, b4, b5, b6, b7, b8, b9, b10, b11, b12, b13, b14].map D.bl := rfl
    refine ⟨by rw [zpD_length]; exact Nat.le_trans (Nat.min_le_right _ _) (by show 15 ≤ 100000; decide), ?_⟩
    rw [e]
    refine kin_go _ _ _ _ _ kinLabels [b0, b1, b2, b3, b4, b5, b6, b7, b8, b9, b10, b11, b12, b13, b14] [] ?_
    rw [List.nil_append]
    obtain ⟨s1, s2⟩ := kin_sum kinLabels [b0, b1, b2, b3, b4, b5, b6, b7, b8, b9, b10, b11, b12, b13, b14]
    have s3 : (kinLabels.map (·.length)).sum ≤ 1000 := by decide +kernel
    have s4 : kinLabels.length ≤ 15 := by decide +kernel
    have s5 : (" " : Str).length = 1 := by decide +kernel
    refine ⟨_, rfl, by rw [s5]; omega, .inr ⟨mu.length, Nat.le_refl _, rfl, ?_, ?_⟩⟩
    · intro o ho
      rw [show mu ++ [MO.gone] ++ [MO.gone] ++ [MO.gone] ++ [MO.gone] ++ [MO.gone] ++ [MO.gone] = mu ++ [MO.gone, MO.gone, MO.gone, MO.gone, MO.gone, MO.gone] by simp, List.take_left' rfl] at ho
      exact .inl ho
    · rw [show mu ++ [MO.gone] ++ [MO.gone] ++ [MO.gone] ++ [MO.gone] ++ [MO.gone] ++ [MO.gone] = mu ++ [MO.gone, MO.gone, MO.gone, MO.gone, MO.gone, MO.gone] by simp, List.take_left' rfl]
      exact h
end DL
set_option maxHeartbeats 4000000
/-! SPU: what the laws share: equal data, the functions at good arguments, errors told by the law's try, statements one by one. -/
namespace DL
open PySem PySem.Spec PyProof.Rows L2
local macro_rules | `(tactic| walk_at "dl") => `(tactic| simp only [wSeq, wAsg, wRet, wVar, wC, wOp, wUn, wTest, wChain, wTru, wAnd, wOr, wNot, wAndV, wOrV, wNotV, wIf, wNil, wCons, wTup, wLst, wLstM, wCall0, wCall, wRaise, wB, wSl, wPart, wNoPart, wNext, wDrop, wIfS, wPar, wAsgG, wSetI, wApp, dgName, dgTup, dgCons, dgNil, gt, List.set, dAdd, dSub, dMul, dFdiv, dMod, dPow, dNeg, dCmpI, dEq, dNe, dIsN, dNotN, isN, dLen, dIsi, tyD, dAbs, dMax, dMin, dInt, dBool, dTuple, dList, dIx, dSl, atI_0, atI_1, atI_2, atI_3, eqd_int, okd_int,
  List.getElem?_cons_zero, List.getElem?_cons_succ, List.length_cons, List.length_nil, startD, List.map_cons, List.map_nil, List.cons_append, List.nil_append, List.append_nil, List.replicate, List.replicate_zero, List.replicate_succ, Nat.sub_self, if_true, if_false, Bool.false_eq_true, ite_true, ite_false, reduceIte, true_and, and_true, decide_true, decide_false, Bool.not_true, Bool.not_false, Nat.reduceSub, Nat.reduceAdd])
local macro_rules | `(tactic| walk_at "ty") => `(tactic| simp only [isT_0, isT_1, isT_2, isT_3, isT_4, isT_5, isT_6, isT_7, isT_8, isT_9, isT_10, isT_11, isT_12, isT_13, isT_14, isT_15, isT_16, isT_17, isT_18, isT_19, isT_20, isT_21, isT_22, isT_23, isT_24, isT_25, isT_26, isT_27, isT_28, isT_29, memT_0, memT_1, memT_2, memT_3, memT_4, true_and, Bool.not_true, Bool.not_false])
theorem canAll {α : Type} {f : α → D} {d : Nat} (h : ∀ x, (py (f x)).canLay0 = true ∧ (py (f x)).depth ≤ d) : ∀ l : List α, PyData.canLayAll0 (pyL (l.map f)) = true ∧ PyData.depthAll (pyL (l.map f)) ≤ d
  | [] => ⟨rfl, Nat.zero_le _⟩
  | x :: r => by
    obtain ⟨a, b⟩ := canAll h r
    obtain ⟨c, e⟩ := h x
    refine ⟨?_, ?_⟩
    · show ((py (f x)).canLay0 && PyData.canLayAll0 (pyL (r.map f))) = true
      rw [a, c]
      rfl
    · show max (py (f x)).depth (PyData.depthAll (pyL (r.map f))) ≤ d
      omega
theorem okd_lst {α : Type} {f : α → D} {d : Nat} (hd : d ≤ 60) (h : ∀ x, (py (f x)).canLay0 = true ∧ (py (f x)).depth ≤ d) (l : List α) : okd (.lst (l.map f)) = true := by
  obtain ⟨a, b⟩ := canAll h l
  show (PyData.canLayAll0 (pyL (l.map f)) && decide (PyData.depthAll (pyL (l.map f)) + 1 ≤ 64)) = true
  rw [a, decide_eq_true (by omega)]
  rfl
theorem okd_tup {α : Type} {f : α → D} {d : Nat} (hd : d ≤ 60) (h : ∀ x, (py (f x)).canLay0 = true ∧ (py (f x)).depth ≤ d) (l : List α) : okd (.tup (l.map f)) = true := okd_lst hd h l
theorem can_fr (q : Rat) : (py (fr q)).canLay0 = true ∧ (py (fr q)).depth ≤ 1 := ⟨rfl, Nat.le_refl _⟩
theorem can_int (i : Int) : (py (.int i)).canLay0 = true ∧ (py (.int i)).depth ≤ 1 := ⟨rfl, Nat.zero_le _⟩
theorem eqdL_frs : ∀ a b : List Rat, eqdL (a.map fr) (b.map fr) = decide (a = b)
  | [], [] => rfl
  | [], y :: b => rfl
  | x :: a, [] => rfl
  | x :: a, y :: b => by
    show (eqd (fr x) (fr y) && eqdL (a.map fr) (b.map fr)) = _
    rw [eqd_fr, eqdL_frs a b]
    by_cases h1 : x = y <;> by_cases h2 : a = b <;> simp [h1, h2]
theorem eqdL_ints : ∀ a b : List Int, eqdL (a.map D.int) (b.map D.int) = decide (a = b)
  | [], [] => rfl
  | [], y :: b => rfl
  | x :: a, [] => rfl
  | x :: a, y :: b => by
    show (eqd (.int x) (.int y) && eqdL (a.map D.int) (b.map D.int)) = _
    rw [eqd_int, eqdL_ints a b]
    by_cases h1 : x = y <;> by_cases h2 : a = b <;> simp [h1, h2]
theorem fr_inj {p q : Rat} (h : fr p = fr q) : p = q := by
  unfold fr at h
  injection h with h
  injection h with h1 h2
  injection h1 with h1
  injection h2 with h2
  injection h2 with h2
  exact Rat.ext h1 (by omega)
theorem prs_inj : ∀ {a b : List (Rat × Rat)}, a.map prD = b.map prD → a = b
  | [], [], _ => rfl
  | [], y :: b, h => by cases h
  | x :: a, [], h => by cases h
  | x :: a, y :: b, h => by
    rw [List.map_cons, List.map_cons] at h
    injection h with h1 h2
    unfold prD at h1
    injection h1 with h1
    injection h1 with h1 h3
    injection h3 with h3
    rw [prs_inj h2, Prod.ext (fr_inj h1) (fr_inj h3)]
theorem plD_inj {p q : Pl} (h : plD p = plD q) : p = q := by
  obtain ⟨a, b, c, d, e⟩ := p
  obtain ⟨a', b', c', d', e'⟩ := q
  unfold plD at h
  dsimp only at h
  injection h with h
  injection h with h1 h2
  injection h1 with h1
  injection h2 with h2
  injection h2 with h2
  injection h2 with h3 h4
  injection h4 with h4 h5
  injection h5 with h5 h6
  injection h6 with h6
  rw [prs_inj h1, fr_inj h3, fr_inj h4, fr_inj h5, fr_inj h6]
theorem no_pl {p : Pl} (h : PlOk p) {A : Prop} : isPl (plD p) = false → A := fun z => by rw [isPl_plD h] at z; cases z
theorem no_in {n m : Nat} {k : Int} (hk : k = (m : Int)) (h : n ≤ m) {A : Prop} : inR (.int (n : Int)) 0 k = false → A := fun z => by rw [hk, inR_nat h] at z; cases z
/-- the four functions, of a good plan and good numbers -/
theorem use_chances {mg : Str → Option Value} {p : Pl} (hp : PlOk p) {n : Nat} (hn : n ≤ 16) {mu : MS} {Φ : D → MS → Prop} (h : Φ (.tup ((chs (ch p) n).map fr)) mu) : sp_chances mg [plD p, .int (n : Int)] mu Φ X0 :=
  ⟨_, _, rfl, pl_plD p, rfl, no_pl hp, fun _ => no_in (m := 16) rfl hn, fun p' n' e1 _ e2 _ => by
    rw [← plD_inj e1]
    injection e2 with e2
    rw [show n' = n by omega]
    exact h⟩
theorem use_at_least {mg : Str → Option Value} {p : Pl} (hp : PlOk p) {j n : Nat} (hj : j ≤ 16) (hn : n ≤ 16) {mu : MS} {Φ : D → MS → Prop} (h : Φ (fr (sumFrom (ch p) n j)) mu) : sp_at_least mg [plD p, .int (j : Int), .int (n : Int)] mu Φ X0 :=
  ⟨_, _, _, rfl, pl_plD p, rfl, rfl, no_pl hp, fun _ => no_in (m := 16) rfl hj, fun _ _ => no_in (m := 16) rfl hn, fun p' j' n' e1 _ e2 _ e3 _ => by
    rw [← plD_inj e1]
    injection e2 with e2
    injection e3 with e3
    rw [show n' = n by omega, show j' = j by omega]
    exact h⟩
theorem use_wait {mg : Str → Option Value} {p : Pl} (hp : PlOk p) {n : Nat} (hn : n ≤ 16) {mu : MS} {Φ : D → MS → Prop} (h : Φ (fr (wsum (ch p) n)) mu) : sp_wait mg [plD p, .int (n : Int)] mu Φ X0 :=
  ⟨_, _, rfl, pl_plD p, rfl, no_pl hp, fun _ => no_in (m := 16) rfl hn, fun p' n' e1 _ e2 _ => by
    rw [← plD_inj e1]
    injection e2 with e2
    rw [show n' = n by omega]
    exact h⟩
theorem use_known {mg : Str → Option Value} {p : Pl} (hp : PlOk p) {n : Nat} (hn : n ≤ 16) {mu : MS} {Φ : D → MS → Prop} (h : Φ (.tup [.int (n : Int), if sureB p n = true then .int (n : Int) else .non]) mu) : sp_known mg [plD p, .int (n : Int)] mu Φ X0 :=
  ⟨_, _, rfl, pl_plD p, rfl, no_pl hp, fun _ => no_in (m := 16) rfl hn, fun p' n' e1 _ e2 _ => by
    rw [← plD_inj e1]
    injection e2 with e2
    rw [show n' = n by omega]
    exact h⟩
theorem shl_fr (n : Nat) (q : Rat) : shl (n + 2) (fr q) = true := rfl
theorem shl_frs (n : Nat) {l : List Rat} (h : l.length ≤ 1000) : shl (n + 3) (.tup (l.map fr)) = true := by
  show (decide ((l.map fr).length ≤ 1000) && (l.map fr).all (shl (n + 2))) = true
  rw [List.length_map, decide_eq_true h, Bool.true_and, List.all_map, List.all_eq_true]
  exact fun x _ => shl_fr n x
theorem sum_chs {p : Pl} (hp : PlOk p) {n : Nat} (hn : n ≤ 16) (j : Nat) : SumOk ((chs (ch p) n).drop j) := by
  have hM : 0 < bas p ^ n := Nat.pow_pos (bas_pos p)
  refine ⟨bas p ^ n, bas p ^ n, hM, fun q hq => ?_, bas_pow hp (by omega), ?_⟩
  · have := chs_gd hp (n := n) (by omega) q (List.mem_of_mem_drop hq)
    exact Sz.unit hM this.2.2 this.1 this.2.1
  · have h1 : bas p ^ n ≤ (1000 ^ 25) ^ n := Nat.pow_le_pow_left (bas_le hp) n
    have h2 : (1000 ^ 25) ^ n ≤ (1000 ^ 25) ^ 16 := Nat.pow_le_pow_right (by decide) hn
    have h3 : ((chs (ch p) n).drop j).length ≤ 17 := by rw [List.length_drop, chs_length]; omega
    exact Nat.lt_of_le_of_lt (Nat.mul_le_mul h3 (Nat.le_trans h1 h2)) (by decide +kernel)
theorem sum_waits (p : Pl) : ∀ n, sumR ((List.range n).map fun i => (ch p i)⁻¹) = wsum (ch p) n
  | 0 => rfl
  | n + 1 => by
    rw [List.range_succ, List.map_append, sumR_append, sum_waits p n]
    show _ + ((ch p n)⁻¹ + 0) = _
    rw [Rat.add_zero]
    rfl
theorem sz_inv {p : Pl} (hp : PlOk p) {i : Nat} (hi : i ≤ 20) : Sz (anum p) (1000 ^ 25 * 1000 ^ 25) (ch p i)⁻¹ := by
  obtain ⟨z, hz⟩ := inv_ok hp hi
  refine ⟨z, hz, ?_⟩
  have c0 := Rat.inv_pos.mpr (ch_ok hp i).1
  have z0 : 0 ≤ z := by
    have : (0 : Rat) ≤ (z : Rat) := by rw [← hz]; exact Rat.mul_nonneg (Rat.le_of_lt c0) Rat.natCast_nonneg
    exact Rat.intCast_nonneg.mp this
  have z1 : z ≤ ((1000 ^ 25 * anum p : Nat) : Int) := by
    have h1 : (z : Rat) ≤ (((1000 ^ 25 * anum p : Nat) : Int) : Rat) := by
      rw [← hz, show (((1000 ^ 25 * anum p : Nat) : Int) : Rat) = ((1000 ^ 25 : Nat) : Rat) * (anum p : Rat) from (Rat.natCast_mul _ _)]
      exact Rat.mul_le_mul_of_nonneg_right (inv_le hp hi) Rat.natCast_nonneg
    exact Rat.intCast_le_intCast.mp h1
  have h2 := Nat.mul_le_mul_left (1000 ^ 25) (anum_le hp)
  omega
theorem sum_inv {p : Pl} (hp : PlOk p) {n : Nat} (hn : n ≤ 20) : SumOk ((List.range n).map fun i => (ch p i)⁻¹) := by
  have h1 := anum_le hp
  refine ⟨anum p, 1000 ^ 25 * 1000 ^ 25, anum_pos hp, fun q hq => ?_, Nat.lt_of_le_of_lt h1 (by decide +kernel), ?_⟩
  · obtain ⟨i, hi, rfl⟩ := List.mem_map.mp hq
    have := List.mem_range.mp hi
    exact sz_inv hp (by omega)
  · rw [List.length_map, List.length_range]
    exact Nat.lt_of_le_of_lt (Nat.mul_le_mul_right _ hn) (by decide +kernel)
theorem rows_at (p : Pl) {n m : Nat} (h : n < m) : atI (rowsD p m) (n : Int) = some (.lst ((chs (ch p) n).map fr)) := by
  rw [atI_n]
  unfold rowsD
  rw [List.getElem?_map, List.getElem?_range h]
  rfl
theorem filt_go {tt : DWT} {ρ : EnvD} {v : Nat} {f : Nat → Bool} {mu : MS} {Ψ : List D → MS → Prop} {N : Nat} (hg : ∀ i : Nat, gt ((wipeD ρ [v]).set v (some (.int (i : Int)))) v = some (.int (i : Int)))
    (ht : ∀ i : Nat, i < N → ∀ Φ : Bool → MS → Prop, Φ (f i) mu → tt ((wipeD ρ [v]).set v (some (.int (i : Int)))) mu Φ X0) : ∀ (n j : Nat) (acc : List D), j + n = N → Ψ (acc ++ ((List.range' j n).filter f).map fun i : Nat => D.int (i : Int)) mu →
    wLcGo (dgName v) tt (wVar v) ρ [v] acc (rgD (j : Int) n) mu Ψ
  | 0, j, acc, e, h => by
    show Ψ acc mu
    simpa using h
  | n + 1, j, acc, e, h => by
    rw [rgD_succ]
    unfold wLcGo dgName
    refine ht j (by omega) _ ?_
    rw [List.range'_succ, List.filter_cons] at h
    cases hf : f j with
    | true =>
      rw [hf, if_pos rfl] at h
      rw [if_pos rfl]
      unfold wVar
      rw [hg j]
      dsimp only
      refine filt_go hg ht n (j + 1) _ (by omega) ?_
      rw [List.append_assoc]
      exact h
    | false =>
      rw [hf, if_neg Bool.false_ne_true] at h
      rw [if_neg Bool.false_ne_true]
      exact filt_go hg ht n (j + 1) _ (by omega) h
theorem rep_fr (n : Nat) : (List.replicate n [fr 1]).flatten = (List.replicate n (1 : Rat)).map fr := by
  rw [List.map_replicate]
  induction n with
  | zero => rfl
  | succ m ih => rw [List.replicate_succ, List.replicate_succ, List.flatten_cons, ih]; rfl
theorem eq_nats (l : List Nat) : eqd (.lst (l.map fun i : Nat => D.int (i : Int))) (.lst (l.map fun i : Nat => D.int (i : Int))) = true := by
  have e : (l.map fun i : Nat => D.int (i : Int)) = (l.map fun i : Nat => (i : Int)).map D.int := by rw [List.map_map]; rfl
  rw [e, eqd_lst, eqdL_ints, decide_eq_true rfl]
theorem row_at (p : Pl) {i j : Nat} (h : j < i + 1) : atI ((chs (ch p) i).map fr) (j : Int) = some (rowAt p i j) := by
  rw [atI_n, List.getElem?_map, List.getElem?_eq_getElem (by rw [chs_length]; exact h)]
  show some (fr _) = some (fr ((chs (ch p) i).getD j 0))
  rw [List.getD_eq_getElem?_getD, List.getElem?_eq_getElem (by rw [chs_length]; exact h)]
  rfl
theorem rgD_length (lo : Int) (n : Nat) : (rgD lo n).length = n := by
  unfold rgD
  rw [List.length_map, List.length_range]
theorem ok_count : okd (.str "count +") = true := by decide +kernel
theorem ok_level : okd (.str "level +") = true := by decide +kernel
theorem ok_plan : okd (.str "plan +") = true := by decide +kernel
theorem eq_count : eqd (.str "count +") (.str "count +") = true := by decide +kernel
theorem eq_level : eqd (.str "level +") (.str "level +") = true := by decide +kernel
theorem eq_plan : eqd (.str "plan +") (.str "plan +") = true := by decide +kernel
theorem try_bad {K : PySem.W.Frag} {mg : Str → Option Value} {x txt : Str} (z : Rz K mg x txt) {wb : DW} {ρ : EnvD} {mu : MS} {Φ : D → MS → Prop} {Ξ : XD} (hb : ∀ (Ψ : D → MS → Prop) (Ξ' : XD), Ξ' (cl mg x) [] mu → wb ρ mu Ψ Ξ') (h : Φ (.str txt) mu) : wTry K (KinR K mg) (cl mg "TooMany") (cl mg "ClimbError") wb ρ mu Φ Ξ := by
  obtain ⟨D0, h1, h2, h3⟩ := z.cl
  exact hb _ _ ⟨rfl, D0, txt, h1, h2, h3, h⟩
theorem not_in {v : D} {n : Nat} (h : inR v 0 16 = false) (e : v = .int (n : Int)) (hn : n ≤ 16) {A : Prop} : A := by
  rw [e] at h
  have z := inR_nat (m := 16) hn
  rw [show ((16 : Nat) : Int) = 16 from rfl, h] at z
  cases z
/-- a statement ahead of the rest, the rest under a name -/
theorem seq_cut {t u : DWS} {ρ : EnvD} {mu : MS} {Δ : DEnds} {Ξ : XD} (h : ∀ R : DWS, R = u → wSeq t R ρ mu Δ Ξ) : wSeq t u ρ mu Δ Ξ := h u rfl
/-- functions of a plan, of a plan and a level, of a plan and a count -/
def spP (f : Pl → D) (mg : Str → Option Value) : DSp := fun ds mu Φ Ξ => ∃ v : D, ds = [v] ∧ pl v = true ∧ (isPl v = false → Ξ (cl mg "InvalidPlan") [] mu) ∧ ∀ p, v = plD p → PlOk p → Φ (f p) mu
def spPL (f : Pl → Nat → D) (mg : Str → Option Value) : DSp := fun ds mu Φ Ξ => ∃ v l : D, ds = [v, l] ∧ pl v = true ∧ pl l = true ∧ (isPl v = false → Ξ (cl mg "InvalidPlan") [] mu) ∧ (isPl v = true → inR l 0 16 = false → Ξ (cl mg "InvalidLevel") [] mu) ∧
  ∀ p n, v = plD p → PlOk p → l = .int (n : Nat) → n ≤ 16 → Φ (f p n) mu
def spPC (C : Pl → Nat → Prop) (f : Pl → Nat → D) (mg : Str → Option Value) : DSp := fun ds mu Φ Ξ => ∃ v l : D, ds = [v, l] ∧ pl v = true ∧ pl l = true ∧ (isPl v = false → Ξ (cl mg "InvalidPlan") [] mu) ∧ (isPl v = true → inR l 0 16 = false → Ξ (cl mg "InvalidCount") [] mu) ∧
  ∀ p n, v = plD p → PlOk p → l = .int (n : Nat) → n ≤ 16 → C p n ∧ Φ (f p n) mu
section
variable {mg : Str → Option Value} {f1 : Pl → D} {f : Pl → Nat → D} {C : Pl → Nat → Prop} {p : Pl} {mu : MS} {Φ : D → MS → Prop} {Ξ : XD}
theorem use_P (hp : PlOk p) (h : Φ (f1 p) mu) : spP f1 mg [plD p] mu Φ Ξ := ⟨_, rfl, pl_plD p, no_pl hp, fun p' e _ => by rw [← plD_inj e]; exact h⟩
theorem use_PL (hp : PlOk p) {n : Nat} (hn : n ≤ 16) (h : Φ (f p n) mu) : spPL f mg [plD p, .int (n : Int)] mu Φ Ξ :=
  ⟨_, _, rfl, pl_plD p, rfl, no_pl hp, fun _ => no_in (m := 16) rfl hn, fun p' n' e1 _ e2 _ => by
    rw [← plD_inj e1]
    injection e2 with e2
    rw [show n' = n by omega]
    exact h⟩
theorem use_PC (hp : PlOk p) {n : Nat} (hn : n ≤ 16) (hC : C p n) (h : Φ (f p n) mu) : spPC C f mg [plD p, .int (n : Int)] mu Φ Ξ :=
  ⟨_, _, rfl, pl_plD p, rfl, no_pl hp, fun _ => no_in (m := 16) rfl hn, fun p' n' e1 _ e2 _ => by
    rw [← plD_inj e1]
    injection e2 with e2
    rw [show n' = n by omega]
    exact ⟨hC, h⟩⟩
theorem bad_P {v : D} (hv : pl v = true) (hi : isPl v = false) (h : Ξ (cl mg "InvalidPlan") [] mu) : spP f1 mg [v] mu Φ Ξ := ⟨_, rfl, hv, fun _ => h, fun p e hp => by rw [e, isPl_plD hp] at hi; cases hi⟩
theorem bad_PL1 {v w : D} (hv : pl v = true) (hw : pl w = true) (hi : isPl v = false) (h : Ξ (cl mg "InvalidPlan") [] mu) : spPL f mg [v, w] mu Φ Ξ :=
  ⟨_, _, rfl, hv, hw, fun _ => h, fun z _ => absurd (hi.symm.trans z) Bool.false_ne_true, fun p n e hp _ _ => by rw [e, isPl_plD hp] at hi; cases hi⟩
theorem bad_PL2 (hp : PlOk p) {v : D} (hv : pl v = true) (hi : inR v 0 16 = false) (h : Ξ (cl mg "InvalidLevel") [] mu) : spPL f mg [plD p, v] mu Φ Ξ :=
  ⟨_, _, rfl, pl_plD p, hv, no_pl hp, fun _ _ => h, fun p' n' e1 _ e2 hn => not_in hi e2 hn⟩
theorem bad_PC1 {v w : D} (hv : pl v = true) (hw : pl w = true) (hi : isPl v = false) (h : Ξ (cl mg "InvalidPlan") [] mu) : spPC C f mg [v, w] mu Φ Ξ :=
  ⟨_, _, rfl, hv, hw, fun _ => h, fun z _ => absurd (hi.symm.trans z) Bool.false_ne_true, fun p n e hp _ _ => by rw [e, isPl_plD hp] at hi; cases hi⟩
theorem bad_PC2 (hp : PlOk p) {v : D} (hv : pl v = true) (hi : inR v 0 16 = false) (h : Ξ (cl mg "InvalidCount") [] mu) : spPC C f mg [plD p, v] mu Φ Ξ :=
  ⟨_, _, rfl, pl_plD p, hv, no_pl hp, fun _ _ => h, fun p' n' e1 _ e2 hn => not_in hi e2 hn⟩
end
end DL
set_option maxHeartbeats 4000000
/-! SPS: what levels tell, means, right plans: the promises, the readings. -/
namespace DL
open PySem PySem.Spec PyProof.Rows L2
local macro_rules | `(tactic| walk_at "dl") => `(tactic| simp only [wSeq, wAsg, wRet, wVar, wC, wOp, wUn, wTest, wChain, wTru, wAnd, wOr, wNot, wAndV, wOrV, wNotV, wIf, wNil, wCons, wTup, wLst, wLstM, wCall0, wCall, wRaise, wB, wSl, wPart, wNoPart, wNext, wDrop, wIfS, wPar, wAsgG, wSetI, wApp, dgName, dgTup, dgCons, dgNil, gt, List.set, dAdd, dSub, dMul, dFdiv, dMod, dPow, dNeg, dCmpI, dEq, dNe, dIsN, dNotN, isN, dLen, dIsi, tyD, dAbs, dMax, dMin, dInt, dBool, dTuple, dList, dIx, dSl, atI_0, atI_1, atI_2, atI_3, eqd_int, okd_int,
  List.getElem?_cons_zero, List.getElem?_cons_succ, List.length_cons, List.length_nil, startD, List.map_cons, List.map_nil, List.cons_append, List.nil_append, List.append_nil, List.replicate, List.replicate_zero, List.replicate_succ, Nat.sub_self, if_true, if_false, Bool.false_eq_true, ite_true, ite_false, reduceIte, true_and, and_true, decide_true, decide_false, Bool.not_true, Bool.not_false, Nat.reduceSub, Nat.reduceAdd])
local macro_rules | `(tactic| walk_at "ty") => `(tactic| simp only [isT_0, isT_1, isT_2, isT_3, isT_4, isT_5, isT_6, isT_7, isT_8, isT_9, isT_10, isT_11, isT_12, isT_13, isT_14, isT_15, isT_16, isT_17, isT_18, isT_19, isT_20, isT_21, isT_22, isT_23, isT_24, isT_25, isT_26, isT_27, isT_28, isT_29, memT_0, memT_1, memT_2, memT_3, memT_4, true_and, Bool.not_true, Bool.not_false])
/-! ### sizes of gains -/
def K21 : Nat := 1000 ^ 21
def gbas (p : Pl) : Nat := prodN (p.hd.map fun x => x.2.den) * (p.g.den * p.m.den ^ 20)
theorem gbas_pos (p : Pl) : 0 < gbas p := by
  refine Nat.mul_pos (prodN_pos fun n hn => ?_) (Nat.mul_pos (den_pos' _) (Nat.pow_pos (den_pos' _)))
  obtain ⟨x, _, rfl⟩ := List.mem_map.mp hn
  exact den_pos' _
theorem gbas_le {p : Pl} (h : PlOk p) : gbas p ≤ 1000 ^ 25 := by
  have h1 : prodN (p.hd.map fun x => x.2.den) ≤ 1000 ^ 4 := by
    refine Nat.le_trans (prodN_le (b := 1000) fun n hn => ?_) (by rw [List.length_map]; exact pow_le_1000 h.len)
    obtain ⟨x, hx, rfl⟩ := List.mem_map.mp hn
    exact (h.hd x hx).2.2.2
  have h2 : p.g.den * p.m.den ^ 20 ≤ 1000 * 1000 ^ 20 := Nat.mul_le_mul h.g.2 (Nat.pow_le_pow_left h.m.2.2 20)
  exact Nat.le_trans (Nat.mul_le_mul h1 h2) (by decide +kernel)
theorem Sz.dvd {M N L : Nat} {q : Rat} (h : Sz M N q) (hM : 0 < M) (hL : 0 < L) (d : M ∣ L) : Sz L (N * L) q := by
  obtain ⟨k, rfl⟩ := d
  refine (h.scale k).mono (Nat.mul_le_mul_left N ?_)
  exact Nat.le_mul_of_pos_left _ hM
theorem sz_pow (q : Rat) (j : Nat) : Sz (q.den ^ j) (q.num.natAbs ^ j) (q ^ j) := by
  have := Sz.own (q ^ j)
  rw [Rat.den_pow, Rat.num_pow, Int.natAbs_pow] at this
  exact this
theorem ga_sz {p : Pl} (h : PlOk p) {i : Nat} (hi : i ≤ 20) : Sz (gbas p) (K21 * gbas p) (ga p i) := by
  have hg := gbas_pos p
  unfold ga
  cases e : p.hd[i]? with
  | some x =>
    have hx := List.mem_of_getElem? e
    have d : x.2.den ∣ gbas p := Nat.dvd_trans (dvd_prodN (List.mem_map.mpr ⟨x, hx, rfl⟩)) (Nat.dvd_mul_right _ _)
    refine ((Sz.own x.2).dvd (den_pos' _) hg d).mono (Nat.mul_le_mul_right _ (Nat.le_trans (h.hd x hx).2.2.1 (by decide +kernel)))
  | none =>
    dsimp only
    have h1 := (Sz.own p.g).mul (sz_pow p.m (i - p.hd.length))
    have d : p.g.den * p.m.den ^ (i - p.hd.length) ∣ gbas p := Nat.dvd_trans (Nat.mul_dvd_mul_left _ (Nat.pow_dvd_pow _ (by omega))) (Nat.dvd_mul_left _ _)
    refine (h1.dvd (Nat.mul_pos (den_pos' _) (Nat.pow_pos (den_pos' _))) hg d).mono (Nat.mul_le_mul_right _ ?_)
    have h2 : p.m.num.natAbs ^ (i - p.hd.length) ≤ 1000 ^ (i - p.hd.length) := Nat.pow_le_pow_left h.m.2.1 _
    have h3 : 1000 ^ (i - p.hd.length) ≤ 1000 ^ 20 := Nat.pow_le_pow_right (by decide) (by omega)
    exact Nat.le_trans (Nat.mul_le_mul h.g.1 (Nat.le_trans h2 h3)) (by decide +kernel)
theorem fit_ga {p : Pl} (h : PlOk p) {i : Nat} (hi : i ≤ 20) : Fit 4400 (ga p i) := by
  have h1 := gbas_le h
  exact fit_sz (gbas_pos p) (ga_sz h hi) (Nat.lt_of_le_of_lt h1 (by decide +kernel)) (Nat.lt_of_le_of_lt (Nat.mul_le_mul_left K21 h1) (by decide +kernel))
theorem tld_sz {p : Pl} (h : PlOk p) : ∀ {n : Nat}, n ≤ 20 → Sz (gbas p) (n * (K21 * gbas p)) (tld (ga p) n)
  | 0, _ => Sz.zero
  | n + 1, hn => by
    rw [Nat.succ_mul]
    exact (tld_sz h (by omega)).add (ga_sz h (by omega))
theorem fit_tld {p : Pl} (h : PlOk p) {n : Nat} (hn : n ≤ 20) : Fit 4400 (tld (ga p) n) := by
  have h1 := gbas_le h
  exact fit_sz (gbas_pos p) (tld_sz h hn) (Nat.lt_of_le_of_lt h1 (by decide +kernel)) (Nat.lt_of_le_of_lt (Nat.mul_le_mul hn (Nat.mul_le_mul_left K21 h1)) (by decide +kernel))
/-! ### what a level tells -/
def sp_told_by : DSp := fun ds mu Φ _ => ∃ (p : Pl) (n : Nat), ds = [plD p, .int (n : Int)] ∧ PlOk p ∧ n ≤ 20 ∧ Φ (fr (tld (ga p) n)) mu
def w_told_by : DWS := (wSeq (wAsg 2 (wTup (wCons (wC (.int 0)) (wCons (wC (.int 1)) wNil))))
    (wSeq (wFor (wR1 (wCons (wVar 1) wNil)) (dgName 3) (wAsg 2 (wCall0 sp_plus (wCons (wVar 2) (wCons (wOp dIx (wCall0 sp_step_of (wCons (wVar 0) (wCons (wVar 3) wNil))) (wC (.int 1))) wNil)))))
    (wRet (wVar 2))))
theorem rd_told_by : ∀ ds mu Φ, sp_told_by ds mu Φ X0 → w_told_by (startD 4 ds) mu ⟨fun _ mu' => fin mu Φ .non mu', fin mu Φ, fun _ _ => False, fun _ _ => False⟩ X0 := by
  rintro _ mu Φ ⟨p, n, rfl, hp, hn, h⟩
  unfold w_told_by wFor wR1
  walk_at "dl"
  refine ⟨by omega, by omega, ?_⟩
  rw [Int.toNat_natCast, rgD0]
  refine for_inv (fun i ρ mu' => mu' = mu ∧ ∃ t, ρ = [some (plD p), some (.int (n : Int)), some (fr (tld (ga p) i)), t]) ⟨rfl, none, rfl⟩ (fun i d ρ mu' Kp hd hI hK => ?_) fun ρ mu' hI => ?_
  · obtain ⟨rfl, t, rfl⟩ := hI
    rw [List.getElem?_map] at hd
    obtain ⟨j, hj, rfl⟩ := Option.map_eq_some_iff.mp hd
    obtain ⟨hl, ej⟩ := List.getElem?_eq_some_iff.mp hj
    rw [List.getElem_range] at ej
    rw [List.length_range] at hl
    subst ej
    walk_at "dl"
    refine ⟨p, i, rfl, hp, by omega, ?_⟩
    unfold stD
    walk_at "dl"
    refine ⟨_, _, rfl, fit_tld hp (by omega), fit_ga hp (by omega), ?_⟩
    exact hK _ _ ⟨rfl, _, rfl⟩
  · obtain ⟨rfl, t, rfl⟩ := hI
    rw [List.length_map, List.length_range]
    walk_at "dl"
    exact .inl h
/-! ### true levels -/
def truB (p : Pl) (i : Nat) : Bool := decide (ch p i * ga p i = 1)
def sp_is_true_on : DSp := fun ds mu Φ _ => ∃ (p : Pl) (n : Nat), ds = [plD p, .int (n : Int)] ∧ PlOk p ∧ n ≤ 20 ∧ Φ (.bl (truB p n)) mu
def w_is_true_on : DWS := (wSeq (wAsgG (dgTup 2 (dgCons (dgName 2) (dgCons (dgName 3) dgNil))) (wCall0 sp_step_of (wCons (wVar 0) (wCons (wVar 1) wNil))))
    (wRet (wOp dEq (wCall0 sp_times (wCons (wVar 2) (wCons (wVar 3) wNil))) (wTup (wCons (wC (.int 1)) (wCons (wC (.int 1)) wNil))))))
theorem rd_is_true_on : ∀ ds mu Φ, sp_is_true_on ds mu Φ X0 → w_is_true_on (startD 4 ds) mu ⟨fun _ mu' => fin mu Φ .non mu', fin mu Φ, fun _ _ => False, fun _ _ => False⟩ X0 := by
  rintro _ mu Φ ⟨p, n, rfl, hp, hn, h⟩
  unfold w_is_true_on
  walk_at "dl"
  refine ⟨p, n, rfl, hp, by omega, ?_⟩
  unfold stD
  walk_at "dl"
  refine ⟨_, _, rfl, fit_ch hp hn, fit_ga hp hn, ?_⟩
  refine ⟨okd_fr _, rfl, ?_⟩
  rw [← fr_one, eqd_fr]
  exact .inl h
/-- the first level that is not true, if there is one -/
def unt (p : Pl) : Option Nat := (List.range (p.hd.length + 2)).find? fun i => !truB p i
def oD : Option Nat → D
  | none => .non
  | some n => .int (n : Int)
def sp_untrue_level : DSp := fun ds mu Φ _ => ∃ p : Pl, ds = [plD p] ∧ PlOk p ∧ Φ (oD (unt p)) mu
def w_untrue_level : DWS := (wSeq (wAsg 1 (wLc (wR1 (wCons (wOp dAdd (wB dLen (wCons (wOp dIx (wVar 0) (wC (.int 0))) wNil)) (wC (.int 2))) wNil)) (dgName 2) (wNot (wTest (wCall0 sp_is_true_on (wCons (wVar 0) (wCons (wVar 2) wNil))))) (wVar 2) [2]))
    (wRet (wIf (wTest (wOp dNe (wVar 1) (wLst wNil))) (wOp dIx (wVar 1) (wC (.int 0))) (wC .non))))
theorem okd_ints (l : List Nat) : okd (.lst (l.map fun i : Nat => D.int (i : Int))) = true := okd_lst (d := 1) (by decide) (fun i => can_int _) l
theorem eqd_nil_l (l : List Nat) : eqd (.lst (l.map fun i : Nat => D.int (i : Int))) (.lst []) = l.isEmpty := by
  cases l with
  | nil => rfl
  | cons a r => rfl
theorem some0 {l : List Nat} {f : Nat → Bool} {mu : MS} {Φ : D → MS → Prop} (h : Φ (oD (l.find? f)) mu) :
    okd (.lst ((l.filter f).map fun i : Nat => D.int (i : Int))) = true ∧ okd (.lst []) = true ∧ if (!eqd (.lst ((l.filter f).map fun i : Nat => D.int (i : Int))) (.lst [])) = true then (match ((l.filter f).map fun i : Nat => D.int (i : Int))[0]? with | some d => Φ d mu | none => False) else Φ .non mu := by
  refine ⟨okd_ints _, rfl, ?_⟩
  rw [eqd_nil_l]
  rw [← List.head?_filter] at h
  cases e : l.filter f with
  | nil =>
    rw [e] at h
    exact h
  | cons a r =>
    rw [e] at h
    exact h
theorem rd_untrue_level : ∀ ds mu Φ, sp_untrue_level ds mu Φ X0 → w_untrue_level (startD 3 ds) mu ⟨fun _ mu' => fin mu Φ .non mu', fin mu Φ, fun _ _ => False, fun _ _ => False⟩ X0 := by
  rintro _ mu Φ ⟨p, rfl, hp, h⟩
  have hl := hp.len
  unfold w_untrue_level wLc wR1 plD
  walk_at "dl"
  rw [List.length_map]
  refine ⟨by omega, by omega, by unfold rgD; rw [List.length_map, List.length_range]; omega, ?_⟩
  rw [show ((p.hd.length : Int) + 2).toNat = p.hd.length + 2 by omega, rgD0]
  refine lc_filt (p := fun i => !truB p i) (g := fun i : Nat => D.int (i : Int)) (fun i hi Ψ Ψ2 h1 h2 => ?_) ?_
  · have := List.mem_range.mp hi
    simp only [wipeD]
    walk_at "dl"
    refine ⟨p, i, rfl, hp, by omega, ?_⟩
    cases ht : truB p i with
    | true =>
      rw [ht] at h1
      exact h1 rfl
    | false =>
      rw [ht] at h2
      exact h2 rfl
  · exact some0 (l := List.range (p.hd.length + 2)) (f := fun i => !truB p i) (Φ := fin mu Φ) (.inl h)
theorem tail_true {p : Pl} (h : ∀ i, i < p.hd.length + 2 → ch p i * ga p i = 1) (i : Nat) : ch p i * ga p i = 1 := by
  have h0 := h p.hd.length (by omega)
  have h1 := h (p.hd.length + 1) (by omega)
  by_cases hi : i < p.hd.length + 2
  · exact h i hi
  · unfold ch ga at h0 h1 ⊢
    rw [List.getElem?_eq_none (by omega)] at h0 h1 ⊢
    dsimp only at h0 h1 ⊢
    rw [Nat.sub_self, Rat.pow_zero, Rat.pow_zero, Rat.mul_one, Rat.mul_one] at h0
    rw [show p.hd.length + 1 - p.hd.length = 1 by omega, Rat.pow_one, Rat.pow_one] at h1
    have lm : p.l * p.m = 1 := by
      have : p.c * p.g * (p.l * p.m) = 1 := by rw [← h1]; grind
      rw [h0, Rat.one_mul] at this
      exact this
    have pw : ∀ n : Nat, p.l ^ n * p.m ^ n = 1 := fun n => by
      induction n with
      | zero => rw [Rat.pow_zero, Rat.pow_zero, Rat.mul_one]
      | succ n ih =>
        rw [Rat.pow_succ, Rat.pow_succ]
        have : p.l ^ n * p.l * (p.m ^ n * p.m) = p.l ^ n * p.m ^ n * (p.l * p.m) := by grind
        rw [this, ih, lm, Rat.mul_one]
    have : p.c * p.l ^ (i - p.hd.length) * (p.g * p.m ^ (i - p.hd.length)) = p.c * p.g * (p.l ^ (i - p.hd.length) * p.m ^ (i - p.hd.length)) := by grind
    rw [this, h0, pw, Rat.mul_one]
theorem unt_none {p : Pl} (h : unt p = none) (i : Nat) : ch p i * ga p i = 1 := by
  refine tail_true (fun i hi => ?_) i
  have := List.find?_eq_none.mp h i (List.mem_range.mpr hi)
  unfold truB at this
  simpa using this
theorem unt_some {p : Pl} {u : Nat} (h : unt p = some u) : (∀ i, i < u → ch p i * ga p i = 1) ∧ ch p u * ga p u ≠ 1 ∧ u < p.hd.length + 2 := by
  unfold unt at h
  have h1 := List.find?_some h
  have hm := List.mem_range.mp (List.mem_of_find?_eq_some h)
  refine ⟨fun i hi => ?_, by unfold truB at h1; simpa using h1, hm⟩
  obtain ⟨_, as, bs, e, hb⟩ := List.find?_eq_some_iff_append.mp h
  have hl : as.length = u := by
    have h2 : (List.range (p.hd.length + 2))[as.length]? = some u := by rw [e, List.getElem?_append_right (Nat.le_refl _), Nat.sub_self]; rfl
    obtain ⟨h3, h4⟩ := List.getElem?_eq_some_iff.mp h2
    rw [List.getElem_range] at h4
    exact h4
  have h5 : i ∈ as := by
    have h2 : (List.range (p.hd.length + 2))[i]? = some i := List.getElem?_range (by omega)
    rw [e, List.getElem?_append_left (by omega)] at h2
    exact List.mem_of_getElem? h2
  have := hb i h5
  unfold truB at this
  simpa using this
/-- further levels tell nothing new -/
theorem unt_far (p : Pl) (n : Nat) : (List.range (p.hd.length + 2 + n)).find? (fun i => !truB p i) = unt p := by
  rw [List.range_add, List.find?_append]
  cases h : unt p with
  | some u =>
    unfold unt at h
    rw [h]
    rfl
  | none =>
    have h2 := h
    unfold unt at h
    rw [h]
    rw [Option.none_or, List.find?_eq_none]
    intro x _
    unfold truB
    rw [decide_eq_true (unt_none h2 x)]
    simp
def sp_is_right_plan : DSp := fun ds mu Φ _ => ∃ p : Pl, ds = [plD p] ∧ PlOk p ∧ Φ (.bl (unt p).isNone) mu
def w_is_right_plan : DWS := (wRet (wOp dIsN (wCall0 sp_untrue_level (wCons (wVar 0) wNil)) (wC .non)))
theorem rd_is_right_plan : ∀ ds mu Φ, sp_is_right_plan ds mu Φ X0 → w_is_right_plan (startD 1 ds) mu ⟨fun _ mu' => fin mu Φ .non mu', fin mu Φ, fun _ _ => False, fun _ _ => False⟩ X0 := by
  rintro _ mu Φ ⟨p, rfl, hp, h⟩
  unfold w_is_right_plan
  walk_at "dl"
  refine ⟨p, rfl, hp, ?_⟩
  cases e : unt p with
  | none =>
    rw [e] at h
    exact .inl h
  | some u =>
    rw [e] at h
    exact .inl h
/-! ### means -/
def SzM (p : Pl) (M : Nat) : Prop := M * gbas p * (400 * K21) < 2 ^ 4400
def sp_mean_by : DSp := fun ds mu Φ _ => ∃ (p : Pl) (qs : List Rat) (M : Nat), ds = [plD p, .lst (qs.map fr)] ∧ PlOk p ∧ qs.length ≤ 20 ∧ 0 < M ∧ SzM p M ∧ (∀ q ∈ qs, Gd M q) ∧ Φ (fr (wE (tld (ga p)) 0 qs)) mu
def w_mean_by : DWS := (wSeq (wAsg 2 (wTup (wCons (wC (.int 0)) (wCons (wC (.int 1)) wNil))))
    (wSeq (wFor (wEn (wCons (wVar 1) wNil)) (dgTup 2 (dgCons (dgName 3) (dgCons (dgName 4) dgNil))) (wAsg 2 (wCall0 sp_plus (wCons (wVar 2) (wCons (wCall0 sp_times (wCons (wVar 4) (wCons (wCall0 sp_told_by (wCons (wVar 0) (wCons (wVar 3) wNil))) wNil))) wNil)))))
    (wRet (wVar 2))))
theorem szM_parts {p : Pl} {M : Nat} (hM : 0 < M) (h : SzM p M) : M < 2 ^ 4400 ∧ M * gbas p < 2 ^ 4400 ∧ ∀ j k, j ≤ 20 → k ≤ 20 → j * (M * (k * (K21 * gbas p))) < 2 ^ 4400 := by
  have hg := gbas_pos p
  have hK : 0 < K21 := by decide +kernel
  unfold SzM at h
  have h1 : M * gbas p ≤ M * gbas p * (400 * K21) := Nat.le_mul_of_pos_right _ (by omega)
  have h2 : M ≤ M * gbas p := Nat.le_mul_of_pos_right _ hg
  refine ⟨by omega, by omega, fun j k hj hk => Nat.lt_of_le_of_lt ?_ h⟩
  have h3 : j * k ≤ 20 * 20 := Nat.mul_le_mul hj hk
  have h4 : j * (M * (k * (K21 * gbas p))) = (j * k) * (M * gbas p * K21) := by
    simp only [Nat.mul_assoc, Nat.mul_left_comm, Nat.mul_comm]
  have h5 : M * gbas p * (400 * K21) = 400 * (M * gbas p * K21) := by
    simp only [Nat.mul_assoc, Nat.mul_left_comm, Nat.mul_comm]
  rw [h4, h5]
  exact Nat.mul_le_mul_right _ h3
theorem getD_of {xs : List Rat} {i : Nat} {q : Rat} (h : xs[i]? = some q) : xs.getD i 0 = q := by
  rw [List.getD, h]
  rfl
theorem wE_take (f : Nat → Rat) (qs : List Rat) {i : Nat} {q : Rat} (h : qs[i]? = some q) : wE f 0 (qs.take (i + 1)) = wE f 0 (qs.take i) + q * f i := by
  have hl := (List.getElem?_eq_some_iff.mp h).1
  rw [List.take_add_one, h, wE_append, List.length_take, Nat.min_eq_left (by omega), Nat.zero_add]
  show _ + (q * f i + 0) = _
  rw [Rat.add_zero]
theorem wE_sz {p : Pl} (hp : PlOk p) {M : Nat} (hM : 0 < M) {qs : List Rat} (hl : qs.length ≤ 20) (hq : ∀ q ∈ qs, Gd M q) : ∀ i, i ≤ qs.length → Sz (M * gbas p) (i * (M * (20 * (K21 * gbas p)))) (wE (tld (ga p)) 0 (qs.take i))
  | 0, _ => by rw [List.take_zero]; exact Sz.zero
  | i + 1, hi => by
    have h : qs[i]? = some qs[i] := List.getElem?_eq_getElem (by omega)
    rw [wE_take _ _ h, Nat.succ_mul]
    refine (wE_sz hp hM hl hq i (by omega)).add ?_
    have g := hq qs[i] (List.getElem_mem _)
    exact ((Sz.unit hM g.2.2 g.1 g.2.1).mul (tld_sz hp (by omega))).mono (Nat.mul_le_mul_left _ (Nat.mul_le_mul_right _ (by omega)))
theorem enD_at {qs : List Rat} {i : Nat} {d : D} (h : (enD 0 (qs.map fr))[i]? = some d) : ∃ q, qs[i]? = some q ∧ d = .tup [.int (i : Int), fr q] := by
  rw [enD_get, List.getElem?_map] at h
  cases e : qs[i]? with
  | none => rw [e] at h; cases h
  | some q =>
    rw [e] at h
    refine ⟨q, rfl, ?_⟩
    cases h
    rw [Nat.zero_add]
theorem rd_mean_by : ∀ ds mu Φ, sp_mean_by ds mu Φ X0 → w_mean_by (startD 5 ds) mu ⟨fun _ mu' => fin mu Φ .non mu', fin mu Φ, fun _ _ => False, fun _ _ => False⟩ X0 := by
  rintro _ mu Φ ⟨p, qs, M, rfl, hp, hl, hM, hs, hq, h⟩
  obtain ⟨m1, m2, m3⟩ := szM_parts hM hs
  have hMg : 0 < M * gbas p := Nat.mul_pos hM (gbas_pos p)
  unfold w_mean_by wFor wEn
  walk_at "dl"
  refine for_inv (fun i ρ mu' => mu' = mu ∧ ∃ r3 r4, ρ = [some (plD p), some (.lst (qs.map fr)), some (fr (wE (tld (ga p)) 0 (qs.take i))), r3, r4]) ⟨rfl, none, none, rfl⟩ (fun i d ρ mu' Kp hd hI hK => ?_) fun ρ mu' hI => ?_
  · obtain ⟨rfl, r3, r4, rfl⟩ := hI
    obtain ⟨q, hi, rfl⟩ := enD_at hd
    have hil := (List.getElem?_eq_some_iff.mp hi).1
    have g := hq q (List.mem_of_getElem? hi)
    walk_at "dl"
    refine ⟨p, i, rfl, hp, by omega, ?_⟩
    refine ⟨_, _, rfl, g.fit hM m1, fit_tld hp (by omega), ?_⟩
    refine ⟨_, _, rfl, fit_sz hMg (wE_sz hp hM hl hq i (by omega)) m2 (m3 i 20 (by omega) (by decide)), fit_sz hMg ((Sz.unit hM g.2.2 g.1 g.2.1).mul (tld_sz hp (by omega))) m2 (by have := m3 1 i (by decide) (by omega); rwa [Nat.one_mul] at this), ?_⟩
    refine hK _ _ ⟨rfl, some (.int (i : Int)), some (fr q), ?_⟩
    rw [wE_take _ _ hi]
  · obtain ⟨rfl, r3, r4, rfl⟩ := hI
    rw [enD_length, List.length_map, List.take_length]
    walk_at "dl"
    exact .inl h
/-! ### fitted plans -/
def fitP (p : Pl) : Pl := ⟨p.hd.map fun (x : Rat × Rat) => (x.1, x.1⁻¹), p.c, p.l, p.c⁻¹, p.l⁻¹⟩
theorem bd_invC {q : Rat} (h : Ch q) (hb : Bd q) : Bd q⁻¹ := bd_inv h hb.2
theorem fit_ok {p : Pl} (h : PlOk p) : PlOk (fitP p) := by
  refine ⟨by show (p.hd.map _).length ≤ 4; rw [List.length_map]; exact h.len, fun x hx => ?_, h.c, h.l, bd_invC h.c.1 h.c.2, Rat.le_of_lt (Rat.inv_pos.mpr h.l.1.1), bd_invC h.l.1 h.l.2⟩
  obtain ⟨y, hy, rfl⟩ := List.mem_map.mp hx
  obtain ⟨a, b, c⟩ := h.hd y hy
  exact ⟨a, b, bd_invC a b⟩
theorem fit_c (p : Pl) (i : Nat) : ch (fitP p) i = ch p i := by
  show (match (p.hd.map fun (x : Rat × Rat) => (x.1, x.1⁻¹))[i]? with | some x => x.1 | none => p.c * p.l ^ (i - (p.hd.map fun (x : Rat × Rat) => (x.1, x.1⁻¹)).length)) = _
  unfold ch
  rw [List.getElem?_map, List.length_map]
  cases p.hd[i]? <;> rfl
theorem inv_pow (q : Rat) : ∀ n : Nat, (q⁻¹) ^ n = (q ^ n)⁻¹
  | 0 => by rw [Rat.pow_zero, Rat.pow_zero]; decide +kernel
  | n + 1 => by rw [Rat.pow_succ, Rat.pow_succ, inv_pow q n, Rat.inv_mul_rev, Rat.mul_comm]
theorem fit_g (p : Pl) (i : Nat) : ga (fitP p) i = (ch p i)⁻¹ := by
  show (match (p.hd.map fun (x : Rat × Rat) => (x.1, x.1⁻¹))[i]? with | some x => x.2 | none => p.c⁻¹ * p.l⁻¹ ^ (i - (p.hd.map fun (x : Rat × Rat) => (x.1, x.1⁻¹)).length)) = _
  unfold ch
  rw [List.getElem?_map, List.length_map]
  cases p.hd[i]? with
  | some x => rfl
  | none =>
    dsimp only [Option.map]
    rw [inv_pow, Rat.inv_mul_rev, Rat.mul_comm]
theorem fit_true {p : Pl} (h : PlOk p) (i : Nat) : ch (fitP p) i * ga (fitP p) i = 1 := by
  rw [fit_c, fit_g]
  exact Rat.mul_inv_cancel _ (Rat.ne_of_gt (ch_ok h i).1)
theorem unt_fit {p : Pl} (h : PlOk p) : unt (fitP p) = none := by
  unfold unt
  rw [List.find?_eq_none]
  intro x _
  unfold truB
  rw [decide_eq_true (fit_true h x)]
  simp
def sp_fitted_by : DSp := fun ds mu Φ _ => ∃ p : Pl, ds = [plD p] ∧ PlOk p ∧ Φ (plD (fitP p)) mu
def w_fitted_by : DWS := (wSeq (wAsgG (dgTup 2 (dgCons (dgName 1) (dgCons (dgName 2) dgNil))) (wVar 0))
    (wSeq (wAsg 3 (wB dTuple (wCons (wLc (wItT (wVar 1)) (dgName 4) wYes (wTup (wCons (wOp dIx (wVar 4) (wC (.int 0))) (wCons (wCall0 sp_inverse (wCons (wOp dIx (wVar 4) (wC (.int 0))) wNil)) wNil))) [4]) wNil)))
    (wRet (wTup (wCons (wVar 3) (wCons (wTup (wCons (wOp dIx (wVar 2) (wC (.int 0))) (wCons (wOp dIx (wVar 2) (wC (.int 1))) (wCons (wCall0 sp_inverse (wCons (wOp dIx (wVar 2) (wC (.int 0))) wNil)) (wCons (wCall0 sp_inverse (wCons (wOp dIx (wVar 2) (wC (.int 1))) wNil)) wNil))))) wNil))))))
theorem rd_fitted_by : ∀ ds mu Φ, sp_fitted_by ds mu Φ X0 → w_fitted_by (startD 5 ds) mu ⟨fun _ mu' => fin mu Φ .non mu', fin mu Φ, fun _ _ => False, fun _ _ => False⟩ X0 := by
  rintro _ mu Φ ⟨p, rfl, hp, h⟩
  have hl := hp.len
  unfold w_fitted_by wLc wItT plD
  walk_at "dl"
  refine ⟨by rw [List.length_map]; omega, ?_⟩
  refine lc_map (f := prD) (g := fun x : Rat × Rat => prD (x.1, x.1⁻¹)) (fun x hx Ψ hΨ => ?_) ?_
  · obtain ⟨a, b, c⟩ := hp.hd x hx
    simp only [wipeD]
    unfold prD
    walk_at "dl"
    exact ⟨x.1, rfl, a.1, (fit_bd b).mono (by decide), hΨ⟩
  · refine ⟨p.c, rfl, hp.c.1.1, (fit_bd hp.c.2).mono (by decide), ?_⟩
    refine ⟨p.l, rfl, hp.l.1.1, (fit_bd hp.l.2).mono (by decide), .inl ?_⟩
    unfold plD fitP at h
    dsimp only at h
    rw [List.map_map] at h
    exact h
/-! ### the functions -/
abbrev mE (p : Pl) (n : Nat) : Rat := Em (ch p) (tld (ga p)) n
def wrD (p : Pl) : D := match unt p with
  | none => .non
  | some u => .tup [.int ((u : Int) + 1), fr (mE p (u + 1) - ((u + 1 : Nat) : Rat))]
abbrev sp_is_right (mg : Str → Option Value) : DSp := spP (fun p => .bl (unt p).isNone) mg
abbrev sp_first_untrue (mg : Str → Option Value) : DSp := spP (fun p => oD (unt p)) mg
abbrev sp_mean (mg : Str → Option Value) : DSp := spPC (fun p n => SzM p (bas p ^ n)) (fun p n => fr (mE p n)) mg
abbrev sp_first_wrong (mg : Str → Option Value) : DSp := spP wrD mg
abbrev sp_fitted (mg : Str → Option Value) : DSp := spP (fun p => plD (fitP p)) mg
def w_is_right (mg : Str → Option Value) : DWS := (wSeq (wDrop (wCall (sp_need_plan mg) (wCons (wVar 0) wNil)))
    (wRet (wCall0 sp_is_right_plan (wCons (wVar 0) wNil))))
theorem rd_is_right (mg : Str → Option Value) : ∀ ds mu Φ Ξ, sp_is_right mg ds mu Φ Ξ → w_is_right mg (startD 1 ds) mu ⟨fun _ mu' => fin mu Φ .non mu', fin mu Φ, fun _ _ => False, fun _ _ => False⟩ (finX mu Ξ) := by
  rintro _ mu Φ Ξ ⟨v, rfl, hv, h1, h2⟩
  unfold w_is_right
  walk_at "dl"
  refine ⟨v, rfl, hv, fun hp => ?_, fun hp => .inl (h1 hp)⟩
  obtain ⟨p, rfl, ok⟩ := isPl_of hp
  exact ⟨p, rfl, ok, .inl (h2 p rfl ok)⟩
def w_first_untrue (mg : Str → Option Value) : DWS := (wSeq (wDrop (wCall (sp_need_plan mg) (wCons (wVar 0) wNil)))
    (wRet (wCall0 sp_untrue_level (wCons (wVar 0) wNil))))
theorem rd_first_untrue (mg : Str → Option Value) : ∀ ds mu Φ Ξ, sp_first_untrue mg ds mu Φ Ξ → w_first_untrue mg (startD 1 ds) mu ⟨fun _ mu' => fin mu Φ .non mu', fin mu Φ, fun _ _ => False, fun _ _ => False⟩ (finX mu Ξ) := by
  rintro _ mu Φ Ξ ⟨v, rfl, hv, h1, h2⟩
  unfold w_first_untrue
  walk_at "dl"
  refine ⟨v, rfl, hv, fun hp => ?_, fun hp => .inl (h1 hp)⟩
  obtain ⟨p, rfl, ok⟩ := isPl_of hp
  exact ⟨p, rfl, ok, .inl (h2 p rfl ok)⟩
def w_fitted (mg : Str → Option Value) : DWS := (wSeq (wDrop (wCall (sp_need_plan mg) (wCons (wVar 0) wNil)))
    (wRet (wCall0 sp_fitted_by (wCons (wVar 0) wNil))))
theorem rd_fitted (mg : Str → Option Value) : ∀ ds mu Φ Ξ, sp_fitted mg ds mu Φ Ξ → w_fitted mg (startD 1 ds) mu ⟨fun _ mu' => fin mu Φ .non mu', fin mu Φ, fun _ _ => False, fun _ _ => False⟩ (finX mu Ξ) := by
  rintro _ mu Φ Ξ ⟨v, rfl, hv, h1, h2⟩
  unfold w_fitted
  walk_at "dl"
  refine ⟨v, rfl, hv, fun hp => ?_, fun hp => .inl (h1 hp)⟩
  obtain ⟨p, rfl, ok⟩ := isPl_of hp
  exact ⟨p, rfl, ok, .inl (h2 p rfl ok)⟩
def w_mean (mg : Str → Option Value) : DWS := (wSeq (wDrop (wCall (sp_need_plan mg) (wCons (wVar 0) wNil)))
    (wSeq (wDrop (wCall (sp_need_count mg) (wCons (wVar 1) (wCons (wC (.int 16)) wNil))))
    (wRet (wCall0 sp_mean_by (wCons (wVar 0) (wCons (wCall0 sp_chances_by (wCons (wVar 0) (wCons (wLst (wCons (wTup (wCons (wC (.int 1)) (wCons (wC (.int 1)) wNil))) wNil)) (wCons (wVar 1) wNil)))) wNil))))))
theorem rd_mean (mg : Str → Option Value) : ∀ ds mu Φ Ξ, sp_mean mg ds mu Φ Ξ → w_mean mg (startD 2 ds) mu ⟨fun _ mu' => fin mu Φ .non mu', fin mu Φ, fun _ _ => False, fun _ _ => False⟩ (finX mu Ξ) := by
  rintro _ mu Φ Ξ ⟨v, c, rfl, hv, hc, h1, h2, h3⟩
  unfold w_mean
  walk_at "dl"
  refine ⟨v, rfl, hv, fun hp => ?_, fun hp => .inl (h1 hp)⟩
  obtain ⟨p, rfl, ok⟩ := isPl_of hp
  try walk_at "dl"
  refine ⟨c, 16, rfl, hc, fun hi => ?_, fun hi => .inl (h2 hp hi)⟩
  rcases inR_or c 16 with ⟨n, rfl, hn, _⟩ | z
  · obtain ⟨hC, hΦ⟩ := h3 p n rfl ok rfl hn
    refine ⟨p, n, rfl, ok, hn, ?_⟩
    exact ⟨p, chs (ch p) n, bas p ^ n, rfl, ok, by rw [chs_length]; omega, Nat.pow_pos (bas_pos p), hC, chs_gd ok (by omega), .inl hΦ⟩
  · rw [show ((16 : Nat) : Int) = 16 from rfl, hi] at z
    cases z
theorem szM_9 {p : Pl} (h : PlOk p) {n : Nat} (hn : n ≤ 10) : SzM p (bas p ^ n) := by
  have h1 : bas p ^ n ≤ (1000 ^ 25) ^ n := Nat.pow_le_pow_left (bas_le h) n
  have h2 : (1000 ^ 25) ^ n ≤ (1000 ^ 25) ^ 10 := Nat.pow_le_pow_right (by decide) hn
  have h3 : bas p ^ n * gbas p * (400 * K21) ≤ (1000 ^ 25) ^ 10 * 1000 ^ 25 * (400 * K21) := Nat.mul_le_mul_right _ (Nat.mul_le_mul (Nat.le_trans h1 h2) (gbas_le h))
  exact Nat.lt_of_le_of_lt h3 (by decide +kernel)
theorem fr_int (z : Int) : fr (z : Rat) = .tup [.int z, .int 1] := by
  unfold fr
  rw [Rat.num_intCast, Rat.den_intCast]
  rfl
theorem fr_nat (n : Nat) : fr (n : Rat) = .tup [.int (n : Int), .int 1] := fr_int (n : Int)
theorem fit_nat {n : Nat} (h : n ≤ 1000) : Fit 4400 (n : Rat) := by
  refine ⟨?_, ?_⟩
  · rw [Rat.den_natCast]
    decide +kernel
  · rw [Rat.num_natCast, Int.natAbs_natCast]
    exact Nat.lt_of_le_of_lt h (by decide +kernel)
theorem fit_mE {p : Pl} (h : PlOk p) {n : Nat} (hn : n ≤ 10) : Fit 4400 (mE p n) := by
  obtain ⟨m1, m2, m3⟩ := szM_parts (Nat.pow_pos (bas_pos p)) (szM_9 h hn)
  have := wE_sz h (Nat.pow_pos (bas_pos p)) (qs := chs (ch p) n) (by rw [chs_length]; omega) (chs_gd h (by omega)) (chs (ch p) n).length (Nat.le_refl _)
  rw [List.take_length] at this
  exact fit_sz (Nat.mul_pos (Nat.pow_pos (bas_pos p)) (gbas_pos p)) this m2 (m3 _ 20 (by rw [chs_length]; omega) (by decide))
def w_first_wrong (mg : Str → Option Value) : DWS := (wSeq (wDrop (wCall (sp_need_plan mg) (wCons (wVar 0) wNil)))
    (wSeq (wAsg 1 (wCall0 sp_untrue_level (wCons (wVar 0) wNil)))
    (wSeq (wIfS (wTest (wOp dIsN (wVar 1) (wC .non))) (wRet (wC .non)) wNext)
    (wSeq (wAsg 2 (wCall0 sp_chances_by (wCons (wVar 0) (wCons (wLst (wCons (wTup (wCons (wC (.int 1)) (wCons (wC (.int 1)) wNil))) wNil)) (wCons (wOp dAdd (wVar 1) (wC (.int 1))) wNil)))))
    (wRet (wTup (wCons (wOp dAdd (wVar 1) (wC (.int 1))) (wCons (wCall0 sp_minus (wCons (wCall0 sp_mean_by (wCons (wVar 0) (wCons (wVar 2) wNil))) (wCons (wTup (wCons (wOp dAdd (wVar 1) (wC (.int 1))) (wCons (wC (.int 1)) wNil))) wNil))) wNil))))))))
theorem rd_first_wrong (mg : Str → Option Value) : ∀ ds mu Φ Ξ, sp_first_wrong mg ds mu Φ Ξ → w_first_wrong mg (startD 3 ds) mu ⟨fun _ mu' => fin mu Φ .non mu', fin mu Φ, fun _ _ => False, fun _ _ => False⟩ (finX mu Ξ) := by
  rintro _ mu Φ Ξ ⟨v, rfl, hv, h1, h2⟩
  unfold w_first_wrong
  walk_at "dl"
  refine ⟨v, rfl, hv, fun hp => ?_, fun hp => .inl (h1 hp)⟩
  obtain ⟨p, rfl, ok⟩ := isPl_of hp
  have h := h2 p rfl ok
  have hl := ok.len
  refine ⟨p, rfl, ok, ?_⟩
  unfold wrD at h
  cases e : unt p with
  | none =>
    rw [e] at h
    unfold oD
    walk_at "dl"
    exact .inl h
  | some u =>
    rw [e] at h
    obtain ⟨_, _, hu⟩ := unt_some e
    unfold oD
    walk_at "dl"
    refine ⟨p, u + 1, rfl, ok, by omega, ?_⟩
    refine ⟨p, chs (ch p) (u + 1), bas p ^ (u + 1), rfl, ok, by rw [chs_length]; omega, Nat.pow_pos (bas_pos p), szM_9 ok (by omega), chs_gd ok (by omega), ?_⟩
    refine ⟨mE p (u + 1), ((u + 1 : Nat) : Rat), by rw [fr_nat]; rfl, fit_mE ok (by omega), fit_nat (by omega), .inl h⟩
/-! ### the laws' own words for it -/
def sp_law_told : DSp := sp_told_by
def w_law_told : DWS := (wRet (wCall0 sp_law_sum (wCons (wLc (wR1 (wCons (wVar 1) wNil)) (dgName 2) wYes (wOp dIx (wCall0 sp_law_step (wCons (wVar 0) (wCons (wVar 2) wNil))) (wC (.int 1))) [2]) wNil)))
theorem rd_law_told : ∀ ds mu Φ, sp_law_told ds mu Φ X0 → w_law_told (startD 3 ds) mu ⟨fun _ mu' => fin mu Φ .non mu', fin mu Φ, fun _ _ => False, fun _ _ => False⟩ X0 := by
  rintro _ mu Φ ⟨p, n, rfl, hp, hn, h⟩
  have hg := gbas_le hp
  unfold w_law_told wLc wR1
  walk_at "dl"
  refine ⟨by omega, by omega, by unfold rgD; rw [List.length_map, List.length_range]; omega, ?_⟩
  rw [Int.toNat_natCast, rgD0]
  refine lc_map (g := fun i : Nat => fr (ga p i)) (fun i hi Ψ hΨ => ?_) ?_
  · have := List.mem_range.mp hi
    simp only [wipeD]
    walk_at "dl"
    refine ⟨p, i, rfl, hp, by omega, ?_⟩
    unfold stD
    walk_at "dl"
    exact hΨ
  · refine law_sum_eq (t := false) (qs := (List.range n).map (ga p)) (by rw [List.map_map]; rfl) ⟨gbas p, K21 * gbas p, gbas_pos p, fun q hq => ?_, Nat.lt_of_le_of_lt hg (by decide +kernel), ?_⟩ ?_
    · obtain ⟨i, hi, rfl⟩ := List.mem_map.mp hq
      have := List.mem_range.mp hi
      exact ga_sz hp (by omega)
    · rw [List.length_map, List.length_range]
      exact Nat.lt_of_le_of_lt (Nat.mul_le_mul hn (Nat.mul_le_mul_left K21 hg)) (by decide +kernel)
    · rw [tld_sum]
      exact .inl h
def sp_law_true : DSp := sp_is_true_on
theorem mul_eq_one {p q : Rat} : p * q = 1 ↔ p.num * q.num = (p.den : Int) * (q.den : Int) := by
  rw [Rat.mul_def', show (1 : Rat) = mkRat 1 1 from rfl, Rat.mkRat_eq_iff (Nat.ne_of_gt (Nat.mul_pos (den_pos' p) (den_pos' q))) (by decide)]
  rw [Int.natCast_mul, Int.one_mul]
  simp
def w_law_true : DWS := (wSeq (wAsgG (dgTup 2 (dgCons (dgName 2) (dgCons (dgName 3) dgNil))) (wCall0 sp_law_step (wCons (wVar 0) (wCons (wVar 1) wNil))))
    (wRet (wOp dEq (wOp dMul (wOp dIx (wVar 2) (wC (.int 0))) (wOp dIx (wVar 3) (wC (.int 0)))) (wOp dMul (wOp dIx (wVar 2) (wC (.int 1))) (wOp dIx (wVar 3) (wC (.int 1)))))))
theorem rd_law_true : ∀ ds mu Φ, sp_law_true ds mu Φ X0 → w_law_true (startD 4 ds) mu ⟨fun _ mu' => fin mu Φ .non mu', fin mu Φ, fun _ _ => False, fun _ _ => False⟩ X0 := by
  rintro _ mu Φ ⟨p, n, rfl, hp, hn, h⟩
  obtain ⟨m1, m2, m3, m4⟩ := mulZ (fit_ch hp hn) (fit_ga hp hn)
  unfold w_law_true
  walk_at "dl"
  refine ⟨p, n, rfl, hp, by omega, ?_⟩
  unfold stD fr
  walk_at "dl"
  refine ⟨m4, m3, .inl ?_⟩
  unfold truB at h
  rw [decide_eq_decide.mpr mul_eq_one] at h
  exact h
def sp_law_untrue : DSp := sp_untrue_level
def w_law_untrue : DWS := (wSeq (wAsg 1 (wLc (wR1 (wCons (wC (.int 12)) wNil)) (dgName 2) (wNot (wTest (wCall0 sp_law_true (wCons (wVar 0) (wCons (wVar 2) wNil))))) (wVar 2) [2]))
    (wRet (wIf (wTest (wOp dNe (wVar 1) (wLst wNil))) (wOp dIx (wVar 1) (wC (.int 0))) (wC .non))))
theorem rd_law_untrue : ∀ ds mu Φ, sp_law_untrue ds mu Φ X0 → w_law_untrue (startD 3 ds) mu ⟨fun _ mu' => fin mu Φ .non mu', fin mu Φ, fun _ _ => False, fun _ _ => False⟩ X0 := by
  rintro _ mu Φ ⟨p, rfl, hp, h⟩
  have hl := hp.len
  unfold w_law_untrue wLc wR1
  walk_at "dl"
  refine ⟨by decide, by decide, by decide, ?_⟩
  rw [show (12 : Int).toNat = 12 from rfl, rgD0]
  refine lc_filt (p := fun i => !truB p i) (g := fun i : Nat => D.int (i : Int)) (fun i hi Ψ Ψ2 h1 h2 => ?_) ?_
  · have := List.mem_range.mp hi
    simp only [wipeD]
    walk_at "dl"
    refine ⟨p, i, rfl, hp, by omega, ?_⟩
    cases ht : truB p i with
    | true =>
      rw [ht] at h1
      exact h1 rfl
    | false =>
      rw [ht] at h2
      exact h2 rfl
  · rw [← unt_far p (10 - p.hd.length), show p.hd.length + 2 + (10 - p.hd.length) = 12 by omega] at h
    exact some0 (l := List.range 12) (f := fun i => !truB p i) (Φ := fin mu Φ) (.inl h)
def sp_law_mean : DSp := sp_mean_by
def w_law_mean : DWS := (wRet (wCall0 sp_law_sum (wCons (wLc (wEn (wCons (wVar 1) wNil)) (dgTup 2 (dgCons (dgName 2) (dgCons (dgName 3) dgNil))) wYes (wCall0 sp_law_times (wCons (wVar 3) (wCons (wCall0 sp_law_told (wCons (wVar 0) (wCons (wVar 2) wNil))) wNil))) [2, 3]) wNil)))
theorem rd_law_mean : ∀ ds mu Φ, sp_law_mean ds mu Φ X0 → w_law_mean (startD 4 ds) mu ⟨fun _ mu' => fin mu Φ .non mu', fin mu Φ, fun _ _ => False, fun _ _ => False⟩ X0 := by
  rintro _ mu Φ ⟨p, qs, M, rfl, hp, hl, hM, hs, hq, h⟩
  obtain ⟨m1, m2, m3⟩ := szM_parts hM hs
  have hMg : 0 < M * gbas p := Nat.mul_pos hM (gbas_pos p)
  unfold w_law_mean wLc wEn
  walk_at "dl"
  rw [enD_length, List.length_map]
  refine ⟨by omega, ?_⟩
  rw [enD_map, List.length_map]
  refine lc_map (g := fun i : Nat => fr (qs.getD i 0 * tld (ga p) i)) (fun i hi Ψ hΨ => ?_) ?_
  · have hil := List.mem_range.mp hi
    have e : qs[i]? = some qs[i] := List.getElem?_eq_getElem hil
    have e2 : (qs.map fr).getD i .non = fr qs[i] := by rw [List.getD, List.getElem?_map, e]; rfl
    have g := hq qs[i] (List.getElem_mem _)
    simp only [wipeD]
    rw [e2]
    rw [getD_of e] at hΨ
    walk_at "dl"
    refine ⟨p, i, rfl, hp, by omega, ?_⟩
    exact ⟨_, _, rfl, g.fit hM m1, fit_tld hp (by omega), hΨ⟩
  · refine law_sum_eq (t := false) (qs := (List.range qs.length).map fun i => qs.getD i 0 * tld (ga p) i) (by rw [List.map_map]; rfl) ⟨M * gbas p, M * (20 * (K21 * gbas p)), hMg, fun q hq2 => ?_, m2, ?_⟩ ?_
    · obtain ⟨i, hi, rfl⟩ := List.mem_map.mp hq2
      have hil := List.mem_range.mp hi
      have e : qs[i]? = some qs[i] := List.getElem?_eq_getElem hil
      have g := hq qs[i] (List.getElem_mem _)
      rw [getD_of e]
      exact ((Sz.unit hM g.2.2 g.1 g.2.1).mul (tld_sz hp (by omega))).mono (Nat.mul_le_mul_left _ (Nat.mul_le_mul_right _ (by omega)))
    · rw [List.length_map, List.length_range]
      exact m3 _ 20 hl (by decide)
    · have e3 := wE_sum (tld (ga p)) 0 qs
      simp only [Nat.zero_add] at e3
      rw [← e3]
      exact .inl h
end DL
set_option maxHeartbeats 4000000
/-! SV: the law's own loops: cells, odd values. -/
namespace DL
open PySem PySem.Spec PyProof.Rows L2
local macro_rules | `(tactic| walk_at "dl") => `(tactic| simp only [wSeq, wAsg, wRet, wVar, wC, wOp, wUn, wTest, wChain, wTru, wAnd, wOr, wNot, wAndV, wOrV, wNotV, wIf, wNil, wCons, wTup, wLst, wLstM, wCall0, wCall, wRaise, wB, wSl, wPart, wNoPart, wNext, wDrop, wIfS, wPar, wAsgG, wSetI, wApp, dgName, dgTup, dgCons, dgNil, gt, List.set, dAdd, dSub, dMul, dFdiv, dMod, dPow, dNeg, dCmpI, dEq, dNe, dIsN, dNotN, isN, dLen, dIsi, tyD, dAbs, dMax, dMin, dInt, dBool, dTuple, dList, dIx, dSl, atI_0, atI_1, atI_2, atI_3, eqd_int, okd_int,
  List.getElem?_cons_zero, List.getElem?_cons_succ, List.length_cons, List.length_nil, startD, List.map_cons, List.map_nil, List.cons_append, List.nil_append, List.append_nil, List.replicate, List.replicate_zero, List.replicate_succ, Nat.sub_self, if_true, if_false, Bool.false_eq_true, ite_true, ite_false, reduceIte, true_and, and_true, decide_true, decide_false, Bool.not_true, Bool.not_false, Nat.reduceSub, Nat.reduceAdd])
theorem cut10 (ns : List Int) : cutD ([D.int 0] ++ ns.map D.int) none (some 10) = ((0 :: ns).take 10).map D.int := by
  rw [List.map_take]
  unfold cutD
  have e1 : ∀ n : Nat, HT.sIx n n (some (10 : Int)) = min 10 n := fun n => HT.sIx_nat n n 10
  rw [HT.sIx_none, e1, List.drop_zero, Nat.sub_zero, List.singleton_append, List.map_cons]
  exact List.take_eq_take_iff.mpr (by omega)
theorem law_cells {dg : DG} {b : DWS} {r : EnvD} {mu : MS} {Δ : DEnds} {ns : List Int} (hn : ns.length ≤ 63) (h : wForGo dg b (((0 :: ns).take 10).map D.int) (some (.scr ns) :: r) mu Δ X0) :
    wFor (wItL (wSl dSl (wOp dAdd (wLst (wCons (wC (.int 0)) wNil)) (wVar 0)) wNoPart (wPart (wC (.int 10))))) dg b (some (.scr ns) :: r) mu Δ X0 := by
  rw [← cut10] at h
  exact ⟨by show 1 + ns.length ≤ 100000; omega, h⟩
theorem for_range {n : Nat} (hn : n ≤ 1000) {dg : DG} {b : DWS} {ρ : EnvD} {mu : MS} {Δ : DEnds} {Ξ : XD} (h : wForGo dg b ((List.range n).map fun i : Nat => D.int (i : Int)) ρ mu Δ Ξ) : wFor (wR1 (wCons (wC (.int (n : Int))) wNil)) dg b ρ mu Δ Ξ := by
  rw [← rgD0] at h
  refine ⟨by omega, by omega, ?_⟩
  rw [Int.toNat_natCast]
  exact h
theorem range_at {n i : Nat} {d : D} (h : ((List.range n).map fun i : Nat => D.int (i : Int))[i]? = some d) : i < n ∧ d = .int (i : Int) := by
  rw [List.getElem?_map] at h
  obtain ⟨j, hj, rfl⟩ := Option.map_eq_some_iff.mp h
  obtain ⟨hl, ej⟩ := List.getElem?_eq_some_iff.mp hj
  rw [List.getElem_range] at ej
  rw [List.length_range] at hl
  subst ej
  exact ⟨hl, rfl⟩
theorem ints_at {l : List Int} {i : Nat} {d : D} (h : (l.map D.int)[i]? = some d) : ∃ z, d = .int z := by
  rw [List.getElem?_map] at h
  obtain ⟨j, _, rfl⟩ := Option.map_eq_some_iff.mp h
  exact ⟨j, rfl⟩
/-- a new deck behind all that was there -/
theorem new_deck {S : MS} {a b t : Int} {n : Nat} (ha : 0 ≤ a) (hb : 0 ≤ b) (hb2 : b < 2147483579) (ht : 0 ≤ t) (hn : t ≤ (n : Int)) : Dk S.length (S ++ [.lst [.int a, .int b, .int t]]) n := ⟨a, b, t, get_last _ _, ha, hb, hb2, ht, hn⟩
theorem deck_take {S S' : MS} {v : MO} {n : Nat} (t : DkTo S.length n (S ++ [v]) S') : S'.take S.length = S := by
  obtain ⟨a', b', c', e, _⟩ := t
  rw [e, List.take_set_of_le (Nat.le_refl _), List.take_left' rfl]
theorem take_of {mu S S' : MS} (h : S.take mu.length = mu) (h2 : S'.take S.length = S) : S'.take mu.length = mu := by
  have hl : mu.length ≤ S.length := by rw [← h, List.length_take]; omega
  rw [← h2, List.take_take, Nat.min_eq_left hl] at h
  exact h
theorem fin_take {mu S : MS} {Φ : D → MS → Prop} {d : D} (hd : nl mu.length d = true) (h : S.take mu.length = mu) (g : Φ d mu) : fin mu Φ d S :=
  .inr ⟨mu.length, Nat.le_refl _, hd, fun o ho => by rw [h] at ho; exact .inl ho, by rw [h]; exact g⟩
end DL
/-! SM3: plain mathematics: spreads by chances, far ones. -/
namespace DL
/-- the spread at a count -/
def Sp (ch ga : Nat → Rat) (n : Nat) : Rat := Em ch (fun l => tld ga l * tld ga l) n - Em ch (tld ga) n * Em ch (tld ga) n
theorem Sp_succ {ch ga : Nat → Rat} (h : ∀ l, ch l * ga l = 1) (n : Nat) : Sp ch ga (n + 1) = Sp ch ga n + (Em ch ga n - 1) := by
  unfold Sp
  rw [mean_true (u := n + 1) (fun l _ => h l) (n + 1) (Nat.le_refl _), mean_true (u := n) (fun l _ => h l) n (Nat.le_refl _), Em_succ]
  have e : Em ch (fun l => ch l * (tld ga (l + 1) * tld ga (l + 1) - tld ga l * tld ga l)) n = 2 * Em ch (tld ga) n + Em ch ga n := by
    show wE _ 0 (chs ch n) = 2 * wE _ 0 (chs ch n) + wE _ 0 (chs ch n)
    rw [← wE_mul, ← wE_add]
    refine wE_congr _ _ fun j _ _ => ?_
    show ch j * ((tld ga j + ga j) * (tld ga j + ga j) - tld ga j * tld ga j) = 2 * tld ga j + ga j
    have := h j
    have e2 : ch j * ((tld ga j + ga j) * (tld ga j + ga j) - tld ga j * tld ga j) = (ch j * ga j) * (2 * tld ga j + ga j) := by grind
    rw [e2, this, Rat.one_mul]
  rw [e, mean_true (u := n) (fun l _ => h l) n (Nat.le_refl _), Rat.natCast_add]
  have : ((1 : Nat) : Rat) = 1 := rfl
  grind
theorem Sp_zero (ch ga : Nat → Rat) : Sp ch ga 0 = 0 := by
  unfold Sp
  rw [Em_zero, Em_zero]
  show (0 : Rat) * 0 - 0 * 0 = 0
  grind
theorem led_zeros (ch : Nat → Rat) : ∀ (k i : Nat) (qs : List Rat), led ch i 0 (List.replicate k 0 ++ qs) = List.replicate k 0 ++ led ch (i + k) 0 qs
  | 0, i, qs => rfl
  | k + 1, i, qs => by
    rw [List.replicate_succ, List.cons_append, List.cons_append]
    show (0 + (0 - 0 * ch i)) :: led ch (i + 1) (0 * ch i) (List.replicate k 0 ++ qs) = _
    rw [Rat.zero_mul, led_zeros ch k (i + 1) qs, show i + 1 + k = i + (k + 1) by omega]
    have : (0 : Rat) + (0 - 0) = 0 := by grind
    rw [this]
theorem chs_sure {ch : Nat → Rat} {h : Nat} (hs : ∀ i, i < h → ch i = 1) : ∀ n, n ≤ h → chs ch n = List.replicate n 0 ++ [1]
  | 0, _ => rfl
  | n + 1, hn => by
    show led ch 0 0 (chs ch n) = _
    rw [chs_sure hs n (by omega), led_zeros]
    show List.replicate n 0 ++ [0 + (1 - 1 * ch (0 + n)), 1 * ch (0 + n)] = _
    rw [Nat.zero_add, hs n (by omega), List.replicate_succ', List.append_assoc]
    have e1 : (0 : Rat) + (1 - 1 * 1) = 0 := by grind
    have e2 : (1 : Rat) * 1 = 1 := by grind
    rw [e1, e2]
    rfl
theorem chs_behind {ch : Nat → Rat} {h : Nat} (hs : ∀ i, i < h → ch i = 1) : ∀ j, ∃ qs, chs ch (h + j) = List.replicate h 0 ++ qs ∧ sumR qs = 1
  | 0 => ⟨[1], chs_sure hs h (Nat.le_refl _), by show (1 : Rat) + 0 = 1; rw [Rat.add_zero]⟩
  | j + 1 => by
    obtain ⟨qs, e, hq⟩ := chs_behind hs j
    refine ⟨led ch (0 + h) 0 qs, ?_, by rw [led_sum, hq, Rat.zero_add]⟩
    show led ch 0 0 (chs ch (h + j)) = _
    rw [e, led_zeros]
theorem wE_zeros (f : Nat → Rat) : ∀ (k i : Nat) (qs : List Rat), wE f i (List.replicate k 0 ++ qs) = wE f (i + k) qs
  | 0, i, qs => rfl
  | k + 1, i, qs => by
    rw [List.replicate_succ, List.cons_append]
    show 0 * f i + wE f (i + 1) (List.replicate k 0 ++ qs) = _
    rw [wE_zeros f k (i + 1) qs, Rat.zero_mul, Rat.zero_add, show i + 1 + k = i + (k + 1) by omega]
/-- j * (j - 1) / 2 -/
def tri (j : Nat) : Rat := mkRat ((j : Int) * ((j : Int) - 1)) 2
theorem tri_succ (j : Nat) : tri (j + 1) = tri j + (j : Rat) := by
  unfold tri
  have e : ((j : Rat)) = mkRat (j : Int) 1 := by rw [Rat.mkRat_one]; rfl
  rw [e, Rat.mkRat_add_mkRat _ _ (by decide) (by decide)]
  congr 1
  rw [Int.natCast_add]
  show ((j : Int) + 1) * ((j : Int) + 1 - 1) = (j : Int) * ((j : Int) - 1) * 1 + (j : Int) * 2
  generalize (j : Int) = x
  have : x + 1 - 1 = x := by omega
  rw [this, Int.add_mul, Int.mul_sub]
  omega
theorem tri_zero : tri 0 = 0 := by decide +kernel
theorem far_eq {ch ga : Nat → Rat} {h : Nat} {m : Rat} (ht : ∀ l, ch l * ga l = 1) (hs : ∀ i, i < h → ch i = 1) (hg : ∀ l, h ≤ l → ga (l + 1) = ga l * m) : (∀ n, n ≤ h → Sp ch ga n = 0) ∧
    ∀ j, Em ch ga (h + j) = ga h + (j : Rat) * (m - 1) ∧ Sp ch ga (h + j) = (ga h - 1) * (j : Rat) + (m - 1) * tri j := by
  have g1 : ∀ i, i < h → ga i = 1 := fun i hi => by
    have := ht i
    rw [hs i hi, Rat.one_mul] at this
    exact this
  have em : ∀ n, n ≤ h → Em ch ga n = ga n := fun n hn => by
    show wE ga 0 (chs ch n) = _
    rw [chs_sure hs n hn, wE_zeros]
    show 1 * ga (0 + n) + 0 = ga n
    rw [Rat.one_mul, Rat.add_zero, Nat.zero_add]
  have low : ∀ n, n ≤ h → Sp ch ga n = 0 := fun n => by
    induction n with
    | zero => intro _; exact Sp_zero _ _
    | succ n ih =>
      intro hn
      rw [Sp_succ ht, ih (by omega), em n (by omega), g1 n (by omega)]
      grind
  refine ⟨low, fun j => ?_⟩
  induction j with
  | zero =>
    refine ⟨?_, ?_⟩
    · rw [Nat.add_zero, em h (Nat.le_refl _)]
      have : ((0 : Nat) : Rat) = 0 := rfl
      rw [this, Rat.zero_mul, Rat.add_zero]
    · rw [Nat.add_zero, low h (Nat.le_refl _), tri_zero]
      have : ((0 : Nat) : Rat) = 0 := rfl
      rw [this, Rat.mul_zero, Rat.mul_zero, Rat.add_zero]
  | succ j ih =>
    obtain ⟨i1, i2⟩ := ih
    have e1 : ((j + 1 : Nat) : Rat) = (j : Rat) + 1 := by rw [Rat.natCast_add]; rfl
    refine ⟨?_, ?_⟩
    · show Em ch ga (h + j + 1) = _
      rw [Em_succ, i1, e1]
      obtain ⟨qs, e, hq⟩ := chs_behind hs j
      have e2 : Em ch (fun l => ch l * (ga (l + 1) - ga l)) (h + j) = m - 1 := by
        show wE _ 0 (chs ch (h + j)) = _
        rw [e, wE_zeros, wE_congr (g := fun _ => (m - 1) * 1) _ _ (fun l h1 h2 => ?_), wE_mul, wE_one, hq, Rat.mul_one]
        show ch l * (ga (l + 1) - ga l) = (m - 1) * 1
        rw [hg l (by omega)]
        have := ht l
        have e3 : ch l * (ga l * m - ga l) = ch l * ga l * (m - 1) := by grind
        rw [e3, this]
        grind
      rw [e2]
      grind
    · show Sp ch ga (h + j + 1) = _
      rw [Sp_succ ht, i2, i1, e1, tri_succ]
      grind
end DL
set_option maxHeartbeats 4000000
/-! SPT: spreads, far ones: the promises, the readings. -/
namespace DL
open PySem PySem.Spec PyProof.Rows L2
local macro_rules | `(tactic| walk_at "dl") => `(tactic| simp only [wSeq, wAsg, wRet, wVar, wC, wOp, wUn, wTest, wChain, wTru, wAnd, wOr, wNot, wAndV, wOrV, wNotV, wIf, wNil, wCons, wTup, wLst, wLstM, wCall0, wCall, wRaise, wB, wSl, wPart, wNoPart, wNext, wDrop, wIfS, wPar, wAsgG, wSetI, wApp, dgName, dgTup, dgCons, dgNil, gt, List.set, dAdd, dSub, dMul, dFdiv, dMod, dPow, dNeg, dCmpI, dEq, dNe, dIsN, dNotN, isN, dLen, dIsi, tyD, dAbs, dMax, dMin, dInt, dBool, dTuple, dList, dIx, dSl, atI_0, atI_1, atI_2, atI_3, eqd_int, okd_int,
  List.getElem?_cons_zero, List.getElem?_cons_succ, List.length_cons, List.length_nil, startD, List.map_cons, List.map_nil, List.cons_append, List.nil_append, List.append_nil, List.replicate, List.replicate_zero, List.replicate_succ, Nat.sub_self, if_true, if_false, Bool.false_eq_true, ite_true, ite_false, reduceIte, true_and, and_true, decide_true, decide_false, Bool.not_true, Bool.not_false, Nat.reduceSub, Nat.reduceAdd])
local macro_rules | `(tactic| walk_at "ty") => `(tactic| simp only [isT_0, isT_1, isT_2, isT_3, isT_4, isT_5, isT_6, isT_7, isT_8, isT_9, isT_10, isT_11, isT_12, isT_13, isT_14, isT_15, isT_16, isT_17, isT_18, isT_19, isT_20, isT_21, isT_22, isT_23, isT_24, isT_25, isT_26, isT_27, isT_28, isT_29, memT_0, memT_1, memT_2, memT_3, memT_4, true_and, Bool.not_true, Bool.not_false])
/-! ### sizes -/
theorem fit_add {a b : Nat} {p q : Rat} (hp : Fit a p) (hq : Fit b q) : Fit (a + b + 1) (p + q) := by
  have e : p + q = mkRat (p.num * q.den + q.num * p.den) (p.den * q.den) := Rat.add_def' p q
  obtain ⟨d1, d2⟩ := mk_parts (p.num * q.den + q.num * p.den) (Nat.mul_pos (den_pos' p) (den_pos' q))
  rw [← e] at d1 d2
  have h1 : p.den * q.den < 2 ^ a * 2 ^ b := Nat.mul_lt_mul'' hp.1 hq.1
  have h2 : p.num.natAbs * q.den ≤ 2 ^ a * 2 ^ b := Nat.mul_le_mul (Nat.le_of_lt hp.2) (Nat.le_of_lt hq.1)
  have h3 : q.num.natAbs * p.den < 2 ^ b * 2 ^ a := Nat.mul_lt_mul'' hq.2 hp.1
  have h4 : (p.num * q.den + q.num * p.den).natAbs ≤ p.num.natAbs * q.den + q.num.natAbs * p.den := by
    refine Nat.le_trans (Int.natAbs_add_le _ _) ?_
    rw [Int.natAbs_mul, Int.natAbs_mul, Int.natAbs_natCast, Int.natAbs_natCast]
    exact Nat.le_refl _
  have e2 : (2 : Nat) ^ (a + b + 1) = 2 ^ a * 2 ^ b + 2 ^ a * 2 ^ b := by rw [Nat.pow_succ, Nat.pow_add]; omega
  have e3 : (2 : Nat) ^ b * 2 ^ a = 2 ^ a * 2 ^ b := Nat.mul_comm _ _
  exact ⟨by omega, by omega⟩
theorem fit_neg {a : Nat} {p : Rat} (hp : Fit a p) : Fit a (-p) := by
  refine ⟨by rw [Rat.neg_den]; exact hp.1, by rw [Rat.neg_num, Int.natAbs_neg]; exact hp.2⟩
theorem fit_sub {a b : Nat} {p q : Rat} (hp : Fit a p) (hq : Fit b q) : Fit (a + b + 1) (p - q) := by
  rw [Rat.sub_eq_add_neg]
  exact fit_add hp (fit_neg hq)
theorem fit_natB {a n : Nat} (h : n < 2 ^ a) (ha : 0 < a) : Fit a (n : Rat) := by
  refine ⟨?_, ?_⟩
  · rw [Rat.den_natCast]
    exact Nat.one_lt_two_pow (by omega)
  · rw [Rat.num_natCast, Int.natAbs_natCast]
    exact h
theorem fit_one : Fit 1 1 := ⟨by decide, by decide⟩
theorem fit_mk {a : Nat} {z : Int} {d : Nat} (hd : 0 < d) (h1 : z.natAbs < 2 ^ a) (h2 : d < 2 ^ a) : Fit a (mkRat z d) := by
  obtain ⟨d1, d2⟩ := mk_parts z hd
  exact ⟨by omega, by omega⟩
/-! ### is less -/
def sp_is_less : DSp := fun ds mu Φ _ => ∃ p q : Rat, ds = [fr p, fr q] ∧ Fit 4400 p ∧ Fit 4400 q ∧ Φ (.bl (decide (p < q))) mu
def w_is_less : DWS := (wRet (wOp (dCmpI fun i j => decide (i < j)) (wOp dMul (wOp dIx (wVar 0) (wC (.int 0))) (wOp dIx (wVar 1) (wC (.int 1)))) (wOp dMul (wOp dIx (wVar 1) (wC (.int 0))) (wOp dIx (wVar 0) (wC (.int 1))))))
theorem rd_is_less : ∀ ds mu Φ, sp_is_less ds mu Φ X0 → w_is_less (startD 2 ds) mu ⟨fun _ mu' => fin mu Φ .non mu', fin mu Φ, fun _ _ => False, fun _ _ => False⟩ X0 := by
  rintro _ mu Φ ⟨p, q, rfl, hp, hq, h⟩
  obtain ⟨m1, m2, m3, m4⟩ := mulZ hp hq
  unfold w_is_less fr
  walk_at "dl"
  refine ⟨m1, m2, .inl ?_⟩
  rw [decide_eq_decide.mpr (Rat.lt_iff p q)] at h
  exact h
/-! ### spreads -/
def SzS (p : Pl) (M : Nat) : Prop := M * M * (gbas p * gbas p) * (640000 * (K21 * K21)) < 2 ^ 4400
abbrev Gs (p : Pl) : Nat := 20 * (K21 * gbas p)
theorem szS_parts {p : Pl} {M : Nat} (hM : 0 < M) (h : SzS p M) : SzM p M ∧ M * (gbas p * gbas p) < 2 ^ 4400 ∧ (∀ j, j ≤ 20 → j * (M * (Gs p * Gs p)) < 2 ^ 4400) ∧ (M * gbas p) * (M * gbas p) < 2 ^ 4400 ∧ 4 * (20 * (M * Gs p) * (20 * (M * Gs p))) < 2 ^ 4400 := by
  have hg := gbas_pos p
  have hK : 0 < K21 := by decide +kernel
  unfold SzS at h
  have hm : 1 ≤ M := hM
  have a1 : M ≤ M * M := Nat.le_mul_of_pos_left _ hM
  have a2 : gbas p ≤ gbas p * gbas p := Nat.le_mul_of_pos_left _ hg
  have a3 : K21 ≤ K21 * K21 := Nat.le_mul_of_pos_left _ hK
  have b1 : M * gbas p ≤ M * M * (gbas p * gbas p) := Nat.mul_le_mul a1 a2
  have b2 : M * gbas p * (400 * K21) ≤ M * M * (gbas p * gbas p) * (640000 * (K21 * K21)) := Nat.mul_le_mul b1 (Nat.mul_le_mul (by decide) a3)
  have b3 : M * (gbas p * gbas p) ≤ M * M * (gbas p * gbas p) := Nat.mul_le_mul_right _ a1
  have b4 : M * M * (gbas p * gbas p) ≤ M * M * (gbas p * gbas p) * (640000 * (K21 * K21)) := Nat.le_mul_of_pos_right _ (Nat.mul_pos (by decide) (Nat.mul_pos hK hK))
  refine ⟨by unfold SzM; omega, by omega, fun j hj => ?_, ?_, ?_⟩
  · refine Nat.lt_of_le_of_lt ?_ h
    have e : M * (Gs p * Gs p) = 400 * (M * (gbas p * gbas p) * (K21 * K21)) := by
      simp only [Gs, Nat.mul_assoc, Nat.mul_left_comm, Nat.mul_comm]
      try simp only [← Nat.mul_assoc]
    have e2 : M * M * (gbas p * gbas p) * (640000 * (K21 * K21)) = 640000 * (M * M * (gbas p * gbas p) * (K21 * K21)) := by
      simp only [Nat.mul_assoc, Nat.mul_left_comm, Nat.mul_comm]
    rw [e, e2, ← Nat.mul_assoc]
    exact Nat.mul_le_mul (by omega) (Nat.mul_le_mul_right _ b3)
  · have e : (M * gbas p) * (M * gbas p) = M * M * (gbas p * gbas p) := by
      simp only [Nat.mul_assoc, Nat.mul_left_comm, Nat.mul_comm]
    rw [e]
    omega
  · have e : 4 * (20 * (M * Gs p) * (20 * (M * Gs p))) = M * M * (gbas p * gbas p) * (640000 * (K21 * K21)) := by
      simp only [Gs, Nat.mul_assoc, Nat.mul_left_comm, Nat.mul_comm]
      try simp only [← Nat.mul_assoc]
    rw [e]
    exact h
abbrev tld2 (p : Pl) : Nat → Rat := fun l => tld (ga p) l * tld (ga p) l
theorem sz_t {p : Pl} (hp : PlOk p) {l : Nat} (hl : l ≤ 20) : Sz (gbas p) (Gs p) (tld (ga p) l) := (tld_sz hp hl).mono (Nat.mul_le_mul_right _ hl)
theorem sz_q2 {p : Pl} (hp : PlOk p) {M : Nat} (hM : 0 < M) {q : Rat} (g : Gd M q) {l : Nat} (hl : l ≤ 20) : Sz (M * (gbas p * gbas p)) (M * (Gs p * Gs p)) (q * tld2 p l) :=
  (Sz.unit hM g.2.2 g.1 g.2.1).mul ((sz_t hp hl).mul (sz_t hp hl))
theorem wE2_sz {p : Pl} (hp : PlOk p) {M : Nat} (hM : 0 < M) {qs : List Rat} (hl : qs.length ≤ 20) (hq : ∀ q ∈ qs, Gd M q) : ∀ i, i ≤ qs.length → Sz (M * (gbas p * gbas p)) (i * (M * (Gs p * Gs p))) (wE (tld2 p) 0 (qs.take i))
  | 0, _ => by rw [List.take_zero]; exact Sz.zero
  | i + 1, hi => by
    have h : qs[i]? = some qs[i] := List.getElem?_eq_getElem (by omega)
    rw [wE_take _ _ h, Nat.succ_mul]
    exact (wE2_sz hp hM hl hq i (by omega)).add (sz_q2 hp hM (hq qs[i] (List.getElem_mem _)) (by omega))
theorem fit_mean {p : Pl} (hp : PlOk p) {M : Nat} (hM : 0 < M) (hs : SzS p M) {qs : List Rat} (hl : qs.length ≤ 20) (hq : ∀ q ∈ qs, Gd M q) : Fit 4400 (wE (tld (ga p)) 0 qs) ∧ Fit 4400 (wE (tld (ga p)) 0 qs * wE (tld (ga p)) 0 qs) := by
  obtain ⟨s1, s2, s3, s4, s5⟩ := szS_parts hM hs
  obtain ⟨m1, m2, m3⟩ := szM_parts hM s1
  have h0 := Nat.mul_pos hM (gbas_pos p)
  have := wE_sz hp hM hl hq qs.length (Nat.le_refl _)
  rw [List.take_length] at this
  have h1 : Sz (M * gbas p) (20 * (M * Gs p)) (wE (tld (ga p)) 0 qs) := this.mono (Nat.mul_le_mul_right _ hl)
  exact ⟨fit_sz h0 h1 m2 (m3 20 20 (by decide) (by decide)), fit_sz (Nat.mul_pos h0 h0) (h1.mul h1) s4 (by omega)⟩
theorem fit_sq {p : Pl} (hp : PlOk p) {l : Nat} (hl : l ≤ 20) : Fit 4400 (tld2 p l) := by
  have h1 := gbas_le hp
  have h2 : Gs p ≤ 20 * (K21 * 1000 ^ 25) := Nat.mul_le_mul_left _ (Nat.mul_le_mul_left _ h1)
  exact fit_sz (Nat.mul_pos (gbas_pos p) (gbas_pos p)) ((sz_t hp hl).mul (sz_t hp hl)) (Nat.lt_of_le_of_lt (Nat.mul_le_mul h1 h1) (by decide +kernel)) (Nat.lt_of_le_of_lt (Nat.mul_le_mul h2 h2) (by decide +kernel))
def sp_spread_by : DSp := fun ds mu Φ _ => ∃ (p : Pl) (qs : List Rat) (M : Nat), ds = [plD p, .lst (qs.map fr)] ∧ PlOk p ∧ qs.length ≤ 20 ∧ 0 < M ∧ SzS p M ∧ (∀ q ∈ qs, Gd M q) ∧ Φ (fr (wE (tld2 p) 0 qs - wE (tld (ga p)) 0 qs * wE (tld (ga p)) 0 qs)) mu
def w_spread_by : DWS := (wSeq (wAsg 2 (wTup (wCons (wC (.int 0)) (wCons (wC (.int 1)) wNil))))
    (wSeq (wFor (wEn (wCons (wVar 1) wNil)) (dgTup 2 (dgCons (dgName 3) (dgCons (dgName 4) dgNil))) (wSeq (wAsg 5 (wCall0 sp_told_by (wCons (wVar 0) (wCons (wVar 3) wNil))))
    (wAsg 2 (wCall0 sp_plus (wCons (wVar 2) (wCons (wCall0 sp_times (wCons (wVar 4) (wCons (wCall0 sp_times (wCons (wVar 5) (wCons (wVar 5) wNil))) wNil))) wNil))))))
    (wSeq (wAsg 6 (wCall0 sp_mean_by (wCons (wVar 0) (wCons (wVar 1) wNil))))
    (wRet (wCall0 sp_minus (wCons (wVar 2) (wCons (wCall0 sp_times (wCons (wVar 6) (wCons (wVar 6) wNil))) wNil)))))))
theorem rd_spread_by : ∀ ds mu Φ, sp_spread_by ds mu Φ X0 → w_spread_by (startD 7 ds) mu ⟨fun _ mu' => fin mu Φ .non mu', fin mu Φ, fun _ _ => False, fun _ _ => False⟩ X0 := by
  rintro _ mu Φ ⟨p, qs, M, rfl, hp, hl, hM, hs, hq, h⟩
  obtain ⟨s1, s2, s3, s4, s5⟩ := szS_parts hM hs
  obtain ⟨m1, m2, m3⟩ := szM_parts hM s1
  have hMg : 0 < M * (gbas p * gbas p) := Nat.mul_pos hM (Nat.mul_pos (gbas_pos p) (gbas_pos p))
  obtain ⟨f1, f2⟩ := fit_mean hp hM hs hl hq
  unfold w_spread_by wFor wEn
  walk_at "dl"
  refine for_inv (fun i ρ mu' => mu' = mu ∧ ∃ r3 r4 r5, ρ = [some (plD p), some (.lst (qs.map fr)), some (fr (wE (tld2 p) 0 (qs.take i))), r3, r4, r5, none]) ⟨rfl, none, none, none, rfl⟩ (fun i d ρ mu' Kp hd hI hK => ?_) fun ρ mu' hI => ?_
  · obtain ⟨rfl, r3, r4, r5, rfl⟩ := hI
    obtain ⟨q, hi, rfl⟩ := enD_at hd
    have hil := (List.getElem?_eq_some_iff.mp hi).1
    have g := hq q (List.mem_of_getElem? hi)
    walk_at "dl"
    refine ⟨p, i, rfl, hp, by omega, ?_⟩
    refine ⟨_, _, rfl, fit_tld hp (by omega), fit_tld hp (by omega), ?_⟩
    refine ⟨_, _, rfl, g.fit hM m1, fit_sq hp (by omega), ?_⟩
    refine ⟨_, _, rfl, fit_sz hMg (wE2_sz hp hM hl hq i (by omega)) s2 (s3 i (by omega)), fit_sz hMg (sz_q2 hp hM g (l := i) (by omega)) s2 (by have := s3 1 (by decide); rwa [Nat.one_mul] at this), ?_⟩
    refine hK _ _ ⟨rfl, some (.int (i : Int)), some (fr q), some (fr (tld (ga p) i)), ?_⟩
    rw [wE_take _ _ hi]
  · obtain ⟨rfl, r3, r4, r5, rfl⟩ := hI
    rw [enD_length, List.length_map, List.take_length]
    walk_at "dl"
    refine ⟨p, qs, M, rfl, hp, hl, hM, s1, hq, ?_⟩
    refine ⟨_, _, rfl, f1, f1, ?_⟩
    have f3 := wE2_sz hp hM hl hq qs.length (Nat.le_refl _)
    rw [List.take_length] at f3
    exact ⟨_, _, rfl, fit_sz hMg f3 s2 (s3 _ hl), f2, .inl h⟩
def SzC (p : Pl) (n : Nat) : Prop := ∃ M : Nat, 0 < M ∧ SzS p M ∧ ∀ q ∈ chs (ch p) n, Gd M q
abbrev sprR (p : Pl) (n : Nat) : Rat := Sp (ch p) (ga p) n
abbrev sp_spread (mg : Str → Option Value) : DSp := spPC SzC (fun p n => fr (sprR p n)) mg
def w_spread (mg : Str → Option Value) : DWS := (wSeq (wDrop (wCall (sp_need_plan mg) (wCons (wVar 0) wNil)))
    (wSeq (wDrop (wCall (sp_need_count mg) (wCons (wVar 1) (wCons (wC (.int 16)) wNil))))
    (wRet (wCall0 sp_spread_by (wCons (wVar 0) (wCons (wCall0 sp_chances_by (wCons (wVar 0) (wCons (wLst (wCons (wTup (wCons (wC (.int 1)) (wCons (wC (.int 1)) wNil))) wNil)) (wCons (wVar 1) wNil)))) wNil))))))
theorem rd_spread (mg : Str → Option Value) : ∀ ds mu Φ Ξ, sp_spread mg ds mu Φ Ξ → w_spread mg (startD 2 ds) mu ⟨fun _ mu' => fin mu Φ .non mu', fin mu Φ, fun _ _ => False, fun _ _ => False⟩ (finX mu Ξ) := by
  rintro _ mu Φ Ξ ⟨v, c, rfl, hv, hc, h1, h2, h3⟩
  unfold w_spread
  walk_at "dl"
  refine ⟨v, rfl, hv, fun hp => ?_, fun hp => .inl (h1 hp)⟩
  obtain ⟨p, rfl, ok⟩ := isPl_of hp
  try walk_at "dl"
  refine ⟨c, 16, rfl, hc, fun hi => ?_, fun hi => .inl (h2 hp hi)⟩
  rcases inR_or c 16 with ⟨n, rfl, hn, _⟩ | z
  · obtain ⟨⟨M, hM, hS, hG⟩, hΦ⟩ := h3 p n rfl ok rfl hn
    refine ⟨p, n, rfl, ok, hn, ?_⟩
    exact ⟨p, chs (ch p) n, M, rfl, ok, by rw [chs_length]; omega, hM, hS, hG, .inl hΦ⟩
  · rw [show ((16 : Nat) : Int) = 16 from rfl, hi] at z
    cases z
/-- a lesser common denominator of the first levels -/
def basN (N : Nat) (p : Pl) : Nat := prodN (p.hd.map fun x => x.1.den) * (p.c.den * p.l.den ^ N)
theorem basN_pos (N : Nat) (p : Pl) : 0 < basN N p := by
  refine Nat.mul_pos (prodN_pos fun n hn => ?_) (Nat.mul_pos (den_pos' _) (Nat.pow_pos (den_pos' _)))
  obtain ⟨x, _, rfl⟩ := List.mem_map.mp hn
  exact den_pos' _
theorem basN_le {N : Nat} {p : Pl} (h : PlOk p) : basN N p ≤ 1000 ^ (5 + N) := by
  have h1 : prodN (p.hd.map fun x => x.1.den) ≤ 1000 ^ 4 := by
    refine Nat.le_trans (prodN_le (b := 1000) fun n hn => ?_) (by rw [List.length_map]; exact pow_le_1000 h.len)
    obtain ⟨x, hx, rfl⟩ := List.mem_map.mp hn
    exact (h.hd x hx).2.1.2
  have h2 : p.c.den * p.l.den ^ N ≤ 1000 * 1000 ^ N := Nat.mul_le_mul h.c.2.2 (Nat.pow_le_pow_left h.l.2.2 N)
  refine Nat.le_trans (Nat.mul_le_mul h1 h2) (Nat.le_of_eq ?_)
  rw [← Nat.pow_succ', ← Nat.pow_add]
  congr 1
  omega
theorem basN_ok {N : Nat} {p : Pl} {i : Nat} (hi : i ≤ N) : IsM (basN N p) (ch p i) := by
  unfold ch
  cases e : p.hd[i]? with
  | some x =>
    refine isM_dvd (isM_den x.1) (Nat.dvd_trans (dvd_prodN (List.mem_map.mpr ⟨x, List.mem_of_getElem? e, rfl⟩)) (Nat.dvd_mul_right _ _))
  | none =>
    have h1 : IsM (p.l.den ^ (i - p.hd.length)) (p.l ^ (i - p.hd.length)) := by
      have := isM_den (p.l ^ (i - p.hd.length))
      rw [Rat.den_pow] at this
      exact this
    have h2 := isM_mul (isM_den p.c) h1
    refine isM_dvd h2 (Nat.dvd_trans (Nat.mul_dvd_mul_left _ (Nat.pow_dvd_pow _ (by omega))) (Nat.dvd_mul_left _ _))
theorem chs_gdN {N : Nat} {p : Pl} (h : PlOk p) {n : Nat} (hn : n ≤ N + 1) : ∀ q ∈ chs (ch p) n, Gd (basN N p ^ n) q := fun q hq =>
  ⟨chs_nonneg (ch_ok h) n q hq, chs_le (ch_ok h) n hq, chs_isM (k := N + 1) (fun i hi => basN_ok (by omega)) n hn q hq⟩
theorem szC_8 {p : Pl} (h : PlOk p) {n : Nat} (hn : n ≤ 8) : SzC p n := by
  refine ⟨basN 8 p ^ n, Nat.pow_pos (basN_pos _ p), ?_, chs_gdN h (by omega)⟩
  have h1 : basN 8 p ^ n ≤ (1000 ^ 13) ^ n := Nat.pow_le_pow_left (basN_le h) n
  have h2 : (1000 ^ 13) ^ n ≤ (1000 ^ 13) ^ 8 := Nat.pow_le_pow_right (by decide) hn
  have h4 := Nat.le_trans h1 h2
  have h3 : basN 8 p ^ n * basN 8 p ^ n * (gbas p * gbas p) * (640000 * (K21 * K21)) ≤ (1000 ^ 13) ^ 8 * (1000 ^ 13) ^ 8 * (1000 ^ 25 * 1000 ^ 25) * (640000 * (K21 * K21)) :=
    Nat.mul_le_mul_right _ (Nat.mul_le_mul (Nat.mul_le_mul h4 h4) (Nat.mul_le_mul (gbas_le h) (gbas_le h)))
  exact Nat.lt_of_le_of_lt h3 (by decide +kernel)
/-! ### far ones -/
def far (p : Pl) (n : Nat) : Rat := (p.g - 1) * ((n - p.hd.length : Nat) : Rat) + (p.m - 1) * tri (n - p.hd.length)
def smoothB (p : Pl) : Bool := (unt p).isNone && p.hd.all fun x => decide (x.1 = 1)
theorem smooth_parts {p : Pl} (h : smoothB p = true) : (∀ l, ch p l * ga p l = 1) ∧ ∀ i, i < p.hd.length → ch p i = 1 := by
  unfold smoothB at h
  rw [Bool.and_eq_true] at h
  refine ⟨fun l => unt_none (Option.isNone_iff_eq_none.mp h.1) l, fun i hi => ?_⟩
  have := List.all_eq_true.mp h.2 p.hd[i] (List.getElem_mem _)
  unfold ch
  rw [List.getElem?_eq_getElem hi]
  exact of_decide_eq_true this
theorem far_sp {p : Pl} (h : smoothB p = true) (n : Nat) : sprR p n = far p n := by
  obtain ⟨h1, h2⟩ := smooth_parts h
  obtain ⟨a, b⟩ := far_eq (m := p.m) h1 h2 fun l hl => by
    unfold ga
    rw [List.getElem?_eq_none (by omega), List.getElem?_eq_none (by omega)]
    dsimp only
    rw [show l + 1 - p.hd.length = (l - p.hd.length) + 1 by omega, Rat.pow_succ, Rat.mul_assoc]
  by_cases hn : n ≤ p.hd.length
  · rw [sprR, a n hn]
    unfold far
    rw [show n - p.hd.length = 0 by omega, tri_zero]
    have : ((0 : Nat) : Rat) = 0 := rfl
    rw [this, Rat.mul_zero, Rat.mul_zero, Rat.add_zero]
  · have := (b (n - p.hd.length)).2
    rw [show p.hd.length + (n - p.hd.length) = n by omega] at this
    rw [sprR, this]
    unfold far
    have e : ga p p.hd.length = p.g := by
      unfold ga
      rw [List.getElem?_eq_none (Nat.le_refl _)]
      dsimp only
      rw [Nat.sub_self, Rat.pow_zero, Rat.mul_one]
    rw [e]
theorem tri_nonneg : ∀ j, 0 ≤ tri j
  | 0 => by rw [tri_zero]; exact Rat.le_refl
  | j + 1 => by
    rw [tri_succ]
    exact Rat.add_nonneg (tri_nonneg j) Rat.natCast_nonneg
theorem one_le_inv {c g : Rat} (hc : Ch c) (h : c * g = 1) : 1 ≤ g := by
  have g0 : 0 ≤ g := by
    rcases (Rat.le_total : 0 ≤ g ∨ g ≤ 0) with z | z
    · exact z
    · have := Rat.mul_le_mul_of_nonneg_left z (Rat.le_of_lt hc.1)
      rw [h, Rat.mul_zero] at this
      exact absurd this (by decide +kernel)
  have := Rat.mul_le_mul_of_nonneg_right hc.2 g0
  rw [h, Rat.one_mul] at this
  exact this
theorem smooth_ge {p : Pl} (hp : PlOk p) (h : smoothB p = true) : 1 ≤ p.g ∧ 1 ≤ p.m := by
  obtain ⟨h1, _⟩ := smooth_parts h
  have a := h1 p.hd.length
  have b := h1 (p.hd.length + 1)
  unfold ch ga at a b
  rw [List.getElem?_eq_none (by omega)] at a b
  dsimp only at a b
  rw [Nat.sub_self, Rat.pow_zero, Rat.pow_zero, Rat.mul_one, Rat.mul_one] at a
  rw [show p.hd.length + 1 - p.hd.length = 1 by omega, Rat.pow_one, Rat.pow_one] at b
  have lm : p.l * p.m = 1 := by
    have : p.c * p.g * (p.l * p.m) = 1 := by rw [← b]; grind
    rw [a, Rat.one_mul] at this
    exact this
  exact ⟨one_le_inv hp.c.1 a, one_le_inv hp.l.1 lm⟩
theorem far_succ {p : Pl} (hp : PlOk p) (h : smoothB p = true) (n : Nat) : far p n ≤ far p (n + 1) := by
  obtain ⟨g1, m1⟩ := smooth_ge hp h
  unfold far
  by_cases hn : n < p.hd.length
  · rw [show n - p.hd.length = 0 by omega, show n + 1 - p.hd.length = 0 by omega]
    exact Rat.le_refl
  · rw [show n + 1 - p.hd.length = n - p.hd.length + 1 by omega, tri_succ, Rat.natCast_add]
    have e : ((1 : Nat) : Rat) = 1 := rfl
    have g0 : 0 ≤ p.g - 1 := by grind
    have m0 : 0 ≤ p.m - 1 := by grind
    have := Rat.mul_nonneg m0 (Rat.natCast_nonneg (a := n - p.hd.length))
    rw [e]
    grind
theorem far_mono {p : Pl} (hp : PlOk p) (h : smoothB p = true) {i : Nat} : ∀ j, far p i ≤ far p (i + j)
  | 0 => Rat.le_refl
  | j + 1 => Rat.le_trans (far_mono hp h j) (far_succ hp h (i + j))
theorem far_zero (p : Pl) : far p 0 = 0 := by
  unfold far
  rw [Nat.zero_sub, tri_zero]
  have : ((0 : Nat) : Rat) = 0 := rfl
  rw [this, Rat.mul_zero, Rat.mul_zero, Rat.add_zero]
theorem fit_tri {j : Nat} (hj : j < 2 ^ 101) : Fit 202 (tri j) := by
  refine fit_mk (by decide) ?_ (by decide)
  rw [Int.natAbs_mul, Int.natAbs_natCast]
  have h1 : ((j : Int) - 1).natAbs ≤ 2 ^ 101 := by omega
  have : j * ((j : Int) - 1).natAbs < 2 ^ 101 * 2 ^ 101 := by
    rcases Nat.eq_zero_or_pos j with z | z
    · subst z; rw [Nat.zero_mul]; decide +kernel
    · exact Nat.mul_lt_mul_of_lt_of_le hj h1 (by decide +kernel)
  exact Nat.lt_of_lt_of_le this (by decide +kernel)
def sp_far_by : DSp := fun ds mu Φ _ => ∃ (p : Pl) (n : Nat), ds = [plD p, .int (n : Int)] ∧ PlOk p ∧ n ≤ 1000000000000000000000000000001 ∧ Φ (fr (far p n)) mu
def w_far_by : DWS := (wSeq (wAsg 2 (wOp dIx (wVar 0) (wC (.int 1))))
    (wSeq (wAsg 3 (wB dMax (wCons (wC (.int 0)) (wCons (wOp dSub (wVar 1) (wB dLen (wCons (wOp dIx (wVar 0) (wC (.int 0))) wNil))) wNil))))
    (wSeq (wAsg 4 (wCall0 sp_times (wCons (wCall0 sp_minus (wCons (wOp dIx (wVar 2) (wC (.int 2))) (wCons (wTup (wCons (wC (.int 1)) (wCons (wC (.int 1)) wNil))) wNil))) (wCons (wTup (wCons (wVar 3) (wCons (wC (.int 1)) wNil))) wNil))))
    (wSeq (wAsg 5 (wCall0 sp_minus (wCons (wOp dIx (wVar 2) (wC (.int 3))) (wCons (wTup (wCons (wC (.int 1)) (wCons (wC (.int 1)) wNil))) wNil))))
    (wRet (wCall0 sp_plus (wCons (wVar 4) (wCons (wCall0 sp_times (wCons (wVar 5) (wCons (wCall0 sp_fraction (wCons (wOp dMul (wVar 3) (wOp dSub (wVar 3) (wC (.int 1)))) (wCons (wC (.int 2)) wNil))) wNil))) wNil))))))))
theorem rd_far_by : ∀ ds mu Φ, sp_far_by ds mu Φ X0 → w_far_by (startD 6 ds) mu ⟨fun _ mu' => fin mu Φ .non mu', fin mu Φ, fun _ _ => False, fun _ _ => False⟩ X0 := by
  rintro _ mu Φ ⟨p, n, rfl, hp, hn, h⟩
  have hl := hp.len
  unfold w_far_by plD
  walk_at "dl"
  rw [List.length_map]
  have ej : max 0 ((n : Int) - (p.hd.length : Int)) = ((n - p.hd.length : Nat) : Int) := by omega
  rw [ej]
  have hj : n - p.hd.length ≤ 1000000000000000000000000000001 := by omega
  unfold far at h
  generalize n - p.hd.length = j at h hj
  have hj2 : j < 2 ^ 101 := by omega
  have fg := fit_bd hp.g
  have fm := fit_bd hp.m.2
  refine ⟨p.g, 1, rfl, fg.mono (by decide), fit_one.mono (by decide), ?_⟩
  refine ⟨p.g - 1, (j : Rat), by rw [fr_nat], (fit_sub fg fit_one).mono (by decide), (fit_natB hj2 (by decide)).mono (by decide), ?_⟩
  refine ⟨p.m, 1, rfl, fm.mono (by decide), fit_one.mono (by decide), ?_⟩
  refine ⟨wide_mul (a := 101) (b := 101) (by omega) (by omega) (by decide) (by decide) (by decide), (j : Int) * ((j : Int) - 1), 2, rfl, by decide, by decide +kernel, ?_⟩
  refine ⟨p.m - 1, tri j, rfl, (fit_sub fm fit_one).mono (by decide), (fit_tri hj2).mono (by decide), ?_⟩
  refine ⟨_, _, rfl, (fit_mul (fit_sub fg fit_one) (fit_natB hj2 (by decide))).mono (by decide), (fit_mul (fit_sub fm fit_one) (fit_tri hj2)).mono (by decide), .inl h⟩
end DL
set_option maxHeartbeats 4000000
/-! SPX: falling plans, registers put together: the promises, the readings. -/
namespace DL
open PySem PySem.Spec PyProof.Rows L2
local macro_rules | `(tactic| walk_at "dl") => `(tactic| simp only [wSeq, wAsg, wRet, wVar, wC, wOp, wUn, wTest, wChain, wTru, wAnd, wOr, wNot, wAndV, wOrV, wNotV, wIf, wNil, wCons, wTup, wLst, wLstM, wCall0, wCall, wRaise, wB, wSl, wPart, wNoPart, wNext, wDrop, wIfS, wPar, wAsgG, wSetI, wApp, dgName, dgTup, dgCons, dgNil, gt, List.set, dAdd, dSub, dMul, dFdiv, dMod, dPow, dNeg, dCmpI, dEq, dNe, dIsN, dNotN, isN, dLen, dIsi, tyD, dAbs, dMax, dMin, dInt, dBool, dTuple, dList, dIx, dSl, atI_0, atI_1, atI_2, atI_3, eqd_int, okd_int,
  List.getElem?_cons_zero, List.getElem?_cons_succ, List.length_cons, List.length_nil, startD, List.map_cons, List.map_nil, List.cons_append, List.nil_append, List.append_nil, List.replicate, List.replicate_zero, List.replicate_succ, Nat.sub_self, if_true, if_false, Bool.false_eq_true, ite_true, ite_false, reduceIte, true_and, and_true, decide_true, decide_false, Bool.not_true, Bool.not_false, Nat.reduceSub, Nat.reduceAdd])
local macro_rules | `(tactic| walk_at "ty") => `(tactic| simp only [isT_0, isT_1, isT_2, isT_3, isT_4, isT_5, isT_6, isT_7, isT_8, isT_9, isT_10, isT_11, isT_12, isT_13, isT_14, isT_15, isT_16, isT_17, isT_18, isT_19, isT_20, isT_21, isT_22, isT_23, isT_24, isT_25, isT_26, isT_27, isT_28, isT_29, memT_0, memT_1, memT_2, memT_3, memT_4, true_and, Bool.not_true, Bool.not_false])
/-! ### falling plans -/
theorem zpD_fr : ∀ xs ys : List Rat, zpD (xs.map fr) (ys.map fr) = (xs.zip ys).map fun x => D.tup [fr x.1, fr x.2]
  | [], ys => by cases ys <;> rfl
  | x :: xs, [] => rfl
  | x :: xs, y :: ys => by
    show D.tup [fr x, fr y] :: zpD (xs.map fr) (ys.map fr) = _
    rw [zpD_fr xs ys]
    rfl
theorem fit_invN {n : Nat} {q : Rat} (h : Fit n q) (h0 : 0 < q) : Fit n q⁻¹ := by
  have hn := num_pos_of h0
  refine ⟨?_, ?_⟩
  · rw [Rat.den_inv, if_neg (by omega)]
    exact h.2
  · rw [Rat.num_inv]
    have e : q.num.sign = 1 := Int.sign_eq_one_of_pos hn
    rw [e, Int.one_mul]
    exact h.1
theorem fit_chN {p : Pl} (hp : PlOk p) {i : Nat} (hi : i ≤ 100) : Fit 1100 (ch p i) := by
  unfold ch
  cases e : p.hd[i]? with
  | some x => exact (fit_bd (hp.hd x (List.mem_of_getElem? e)).2.1).mono (by decide)
  | none => exact (fit_mul (fit_bd hp.c.2) (fit_pow hp.l.2 (i - p.hd.length))).mono (by omega)
def stepsR (p : Pl) (n : Nat) : List Rat := (List.range n).map (ch p)
def dropsB (xs : List Rat) : Bool := !((xs.zip (xs.drop 1)).map fun x => decide (x.1 < x.2)).any id
def fallB (p : Pl) : Bool := dropsB (stepsR p (p.hd.length + 1))
theorem dropsB_iff {p : Pl} {n : Nat} : dropsB (stepsR p n) = true ↔ ∀ i, i + 1 < n → ch p (i + 1) ≤ ch p i := by
  unfold dropsB stepsR
  rw [Bool.not_eq_true', List.any_eq_false]
  constructor
  · intro h i hi
    have hm : (ch p i, ch p (i + 1)) ∈ ((List.range n).map (ch p)).zip (((List.range n).map (ch p)).drop 1) := by
      refine List.mem_of_getElem? (i := i) ?_
      rw [List.getElem?_zip_eq_some]
      refine ⟨?_, ?_⟩
      · rw [List.getElem?_map, List.getElem?_range (by omega)]
        rfl
      · rw [List.getElem?_drop, List.getElem?_map, Nat.add_comm 1 i, List.getElem?_range hi]
        rfl
    have := h _ (List.mem_map.mpr ⟨_, hm, rfl⟩)
    simp only [id_eq, decide_eq_true_eq] at this
    exact Rat.not_lt.mp this
  · intro h x hx
    obtain ⟨y, hy, rfl⟩ := List.mem_map.mp hx
    obtain ⟨i, hi⟩ := List.mem_iff_getElem?.mp hy
    rw [List.getElem?_zip_eq_some] at hi
    obtain ⟨h1, h2⟩ := hi
    rw [List.getElem?_map] at h1
    rw [List.getElem?_drop, List.getElem?_map] at h2
    obtain ⟨j, hj, e1⟩ := Option.map_eq_some_iff.mp h1
    obtain ⟨k, hk, e2⟩ := Option.map_eq_some_iff.mp h2
    obtain ⟨lj, ej⟩ := List.getElem?_eq_some_iff.mp hj
    obtain ⟨lk, ek⟩ := List.getElem?_eq_some_iff.mp hk
    rw [List.getElem_range] at ej ek
    rw [List.length_range] at lk
    have := h i (by omega)
    rw [← e1, ← e2, ← ej, ← ek, Nat.add_comm 1 i]
    simp only [id_eq, decide_eq_true_eq]
    exact Rat.not_lt.mpr this
theorem ch_tail {p : Pl} (hp : PlOk p) {i : Nat} (hi : p.hd.length ≤ i) : ch p (i + 1) ≤ ch p i := by
  unfold ch
  rw [List.getElem?_eq_none hi, List.getElem?_eq_none (by omega)]
  show p.c * p.l ^ (i + 1 - p.hd.length) ≤ p.c * p.l ^ (i - p.hd.length)
  rw [show i + 1 - p.hd.length = (i - p.hd.length) + 1 by omega, Rat.pow_succ]
  have hq := (ch_pow hp.l.1 (i - p.hd.length)).1
  have h1 := Rat.mul_le_mul_of_nonneg_left hp.l.1.2 (Rat.le_of_lt hq)
  rw [Rat.mul_one] at h1
  exact Rat.mul_le_mul_of_nonneg_left h1 (Rat.le_of_lt hp.c.1.1)
theorem fallB_falls {p : Pl} (hp : PlOk p) (h : fallB p = true) : Falls (ch p) := by
  have h1 := dropsB_iff.mp h
  have st : ∀ i, ch p (i + 1) ≤ ch p i := fun i => by
    by_cases hi : i < p.hd.length
    · exact h1 i (by omega)
    · exact ch_tail hp (by omega)
  intro i j hij
  obtain ⟨d, rfl⟩ : ∃ d, j = i + d := ⟨j - i, by omega⟩
  clear hij
  induction d with
  | zero => exact Rat.le_refl
  | succ d ih => exact Rat.le_trans (st (i + d)) ih
theorem fallB_of {p : Pl} (h : ∀ i, i < p.hd.length → ch p (i + 1) ≤ ch p i) : fallB p = true := dropsB_iff.mpr fun i hi => h i (by omega)
def sp_is_falling : DSp := fun ds mu Φ _ => ∃ p : Pl, ds = [plD p] ∧ PlOk p ∧ Φ (.bl (fallB p)) mu
def w_is_falling : DWS := (wSeq (wAsg 1 (wLc (wR1 (wCons (wOp dAdd (wB dLen (wCons (wOp dIx (wVar 0) (wC (.int 0))) wNil)) (wC (.int 1))) wNil)) (dgName 2) wYes (wOp dIx (wCall0 sp_step_of (wCons (wVar 0) (wCons (wVar 2) wNil))) (wC (.int 0))) [2]))
    (wRet (wNotV (wB dAny (wCons (wLc (wZp (wCons (wVar 1) (wCons (wSl dSl (wVar 1) (wPart (wC (.int 1))) wNoPart) wNil))) (dgTup 2 (dgCons (dgName 3) (dgCons (dgName 4) dgNil))) wYes (wCall0 sp_is_less (wCons (wVar 3) (wCons (wVar 4) wNil))) [3, 4]) wNil)))))
theorem cut_1 (xs : List Rat) : cutD (xs.map fr) (some 1) none = (xs.drop 1).map fr := by
  rw [show (1 : Int) = ((1 : Nat) : Int) from rfl, cutD_from, List.map_drop]
theorem rd_is_falling : ∀ ds mu Φ, sp_is_falling ds mu Φ X0 → w_is_falling (startD 5 ds) mu ⟨fun _ mu' => fin mu Φ .non mu', fin mu Φ, fun _ _ => False, fun _ _ => False⟩ X0 := by
  rintro _ mu Φ ⟨p, rfl, hp, h⟩
  unfold w_is_falling
  refine seq_cut fun R e => ?_
  unfold wLc wR1
  walk_at "dl"
  unfold plD
  walk_at "dl"
  rw [List.length_map]
  have hl := hp.len
  refine ⟨by omega, by omega, by unfold rgD; rw [List.length_map, List.length_range]; omega, ?_⟩
  rw [show ((p.hd.length : Int) + 1).toNat = p.hd.length + 1 by omega, rgD0, show D.tup [.tup (p.hd.map prD), .tup [fr p.c, fr p.l, fr p.g, fr p.m]] = plD p from rfl]
  refine lc_map (f := fun i : Nat => D.int (i : Int)) (g := fun i : Nat => fr (ch p i)) (fun i hi Ψ hΨ => ?_) ?_
  · have hi := List.mem_range.mp hi
    simp only [wipeD]
    walk_at "dl"
    refine ⟨p, i, rfl, hp, by omega, ?_⟩
    unfold stD
    walk_at "dl"
    exact hΨ
  · rw [show (List.range (p.hd.length + 1)).map (fun i : Nat => fr (ch p i)) = (stepsR p (p.hd.length + 1)).map fr by unfold stepsR; rw [List.map_map]; rfl]
    try walk_at "dl"
    subst e
    unfold wLc wZp
    walk_at "dl"
    rw [cut_1, zpD_fr]
    refine ⟨by unfold stepsR; simp; omega, ?_⟩
    refine lc_map (f := fun x : Rat × Rat => D.tup [fr x.1, fr x.2]) (g := fun x : Rat × Rat => .bl (decide (x.1 < x.2))) (fun x hx Ψ hΨ => ?_) ?_
    · simp only [wipeD]
      walk_at "dl"
      have hm : ∀ q ∈ stepsR p (p.hd.length + 1), Fit 4400 q := fun q hq => by
        obtain ⟨i, hi, rfl⟩ := List.mem_map.mp hq
        have := List.mem_range.mp hi
        exact (fit_chN hp (by omega)).mono (by decide)
      have h1 := List.of_mem_zip hx
      exact ⟨x.1, x.2, rfl, hm _ h1.1, hm _ (List.mem_of_mem_drop h1.2), hΨ⟩
    · refine ⟨((stepsR p (p.hd.length + 1)).zip ((stepsR p (p.hd.length + 1)).drop 1)).map fun x => decide (x.1 < x.2), by rw [List.map_map]; rfl, ?_⟩
      exact .inl h
def sp_need_falling (mg : Str → Option Value) : DSp := fun ds mu Φ Ξ => ∃ v : D, ds = [v] ∧ pl v = true ∧ (isPl v = false → Ξ (cl mg "InvalidPlan") [] mu) ∧ ∀ p, v = plD p → PlOk p → (fallB p = true → Φ .non mu) ∧ (fallB p = false → Ξ (cl mg "NotFalling") [] mu)
def w_need_falling (mg : Str → Option Value) : DWS := (wSeq (wDrop (wCall (sp_need_plan mg) (wCons (wVar 0) wNil)))
    (wIfS (wNot (wTest (wCall0 sp_is_falling (wCons (wVar 0) wNil)))) (wRaise (cl mg "NotFalling")) wNext))
theorem rd_need_falling (mg : Str → Option Value) : ∀ ds mu Φ Ξ, sp_need_falling mg ds mu Φ Ξ → w_need_falling mg (startD 1 ds) mu ⟨fun _ mu' => fin mu Φ .non mu', fin mu Φ, fun _ _ => False, fun _ _ => False⟩ (finX mu Ξ) := by
  rintro _ mu Φ Ξ ⟨v, rfl, hv, h1, h2⟩
  unfold w_need_falling
  walk_at "dl"
  refine ⟨v, rfl, hv, fun hp => ?_, fun hp => .inl (h1 hp)⟩
  obtain ⟨p, rfl, ok⟩ := isPl_of hp
  obtain ⟨h3, h4⟩ := h2 p rfl ok
  try walk_at "dl"
  refine ⟨p, rfl, ok, ?_⟩
  cases hf : fallB p with
  | true => exact .inl (h3 hf)
  | false => exact .inl (h4 hf)
end DL
set_option maxHeartbeats 4000000
/-! SPY: registers put together: the promises, the readings. -/
namespace DL
open PySem PySem.Spec PyProof.Rows L2
local macro_rules | `(tactic| walk_at "dl") => `(tactic| simp only [wSeq, wAsg, wRet, wVar, wC, wOp, wUn, wTest, wChain, wTru, wAnd, wOr, wNot, wAndV, wOrV, wNotV, wIf, wNil, wCons, wTup, wLst, wLstM, wCall0, wCall, wRaise, wB, wSl, wPart, wNoPart, wNext, wDrop, wIfS, wPar, wAsgG, wSetI, wApp, dgName, dgTup, dgCons, dgNil, gt, List.set, dAdd, dSub, dMul, dFdiv, dMod, dPow, dNeg, dCmpI, dEq, dNe, dIsN, dNotN, isN, dLen, dIsi, tyD, dAbs, dMax, dMin, dInt, dBool, dTuple, dList, dIx, dSl, atI_0, atI_1, atI_2, atI_3, eqd_int, okd_int,
  List.getElem?_cons_zero, List.getElem?_cons_succ, List.length_cons, List.length_nil, startD, List.map_cons, List.map_nil, List.cons_append, List.nil_append, List.append_nil, List.replicate, List.replicate_zero, List.replicate_succ, Nat.sub_self, if_true, if_false, Bool.false_eq_true, ite_true, ite_false, reduceIte, true_and, and_true, decide_true, decide_false, Bool.not_true, Bool.not_false, Nat.reduceSub, Nat.reduceAdd])
local macro_rules | `(tactic| walk_at "ty") => `(tactic| simp only [isT_0, isT_1, isT_2, isT_3, isT_4, isT_5, isT_6, isT_7, isT_8, isT_9, isT_10, isT_11, isT_12, isT_13, isT_14, isT_15, isT_16, isT_17, isT_18, isT_19, isT_20, isT_21, isT_22, isT_23, isT_24, isT_25, isT_26, isT_27, isT_28, isT_29, memT_0, memT_1, memT_2, memT_3, memT_4, true_and, Bool.not_true, Bool.not_false])
def MgOk (p : Pl) (h low : Nat) : Prop := ∃ B, 0 < B ∧ MgB (ch p) h low B ∧ B ^ low < 2 ^ 4400
def sp_merged_by : DSp := fun ds mu Φ _ => ∃ (p : Pl) (a b : Nat), ds = [plD p, .int (a : Int), .int (b : Int)] ∧ PlOk p ∧ a ≤ 16 ∧ b ≤ 16 ∧ Falls (ch p) ∧ MgOk p (max a b) (min a b) ∧ Φ (.lst ((mg (ch p) (max a b) (min a b)).map fr)) mu
def w_merged_by : DWS := (wSeq (wPar 3 4 (wCons (wB dMax (wCons (wVar 1) (wCons (wVar 2) wNil))) (wCons (wB dMin (wCons (wVar 1) (wCons (wVar 2) wNil))) wNil)))
    (wSeq (wAsg 5 (wLst (wCons (wTup (wCons (wC (.int 1)) (wCons (wC (.int 1)) wNil))) wNil)))
    (wSeq (wFor (wR1 (wCons (wVar 4) wNil)) (dgName 6) (wSeq (wAsg 7 (wCall0 sp_inverse (wCons (wOp dIx (wCall0 sp_step_of (wCons (wVar 0) (wCons (wVar 6) wNil))) (wC (.int 0))) wNil)))
    (wSeq (wAsg 8 (wOp dMulM (wLst (wCons (wTup (wCons (wC (.int 0)) (wCons (wC (.int 1)) wNil))) wNil)) (wOp dAdd (wB dLen (wCons (wVar 5) wNil)) (wC (.int 1)))))
    (wSeq (wFor (wEn (wCons (wVar 5) wNil)) (dgTup 2 (dgCons (dgName 9) (dgCons (dgName 10) dgNil))) (wSeq (wAsg 11 (wCall0 sp_times (wCons (wVar 10) (wCons (wCall0 sp_times (wCons (wOp dIx (wCall0 sp_step_of (wCons (wVar 0) (wCons (wOp dAdd (wVar 3) (wVar 9)) wNil))) (wC (.int 0))) (wCons (wVar 7) wNil))) wNil))))
    (wSeq (wSetI (wCall0 sp_plus (wCons (wOp dIx (wVar 8) (wVar 9)) (wCons (wCall0 sp_minus (wCons (wVar 10) (wCons (wVar 11) wNil))) wNil))) (wVar 8) (wVar 9))
    (wSetI (wCall0 sp_plus (wCons (wOp dIx (wVar 8) (wOp dAdd (wVar 9) (wC (.int 1)))) (wCons (wVar 11) wNil))) (wVar 8) (wOp dAdd (wVar 9) (wC (.int 1)))))))
    (wFrz 8 (wAsg 5 (wVar 8)))))))
    (wRet (wVar 5)))))
def w_mg_in : DWS := (wSeq (wAsg 11 (wCall0 sp_times (wCons (wVar 10) (wCons (wCall0 sp_times (wCons (wOp dIx (wCall0 sp_step_of (wCons (wVar 0) (wCons (wOp dAdd (wVar 3) (wVar 9)) wNil))) (wC (.int 0))) (wCons (wVar 7) wNil))) wNil))))
    (wSeq (wSetI (wCall0 sp_plus (wCons (wOp dIx (wVar 8) (wVar 9)) (wCons (wCall0 sp_minus (wCons (wVar 10) (wCons (wVar 11) wNil))) wNil))) (wVar 8) (wVar 9))
    (wSetI (wCall0 sp_plus (wCons (wOp dIx (wVar 8) (wOp dAdd (wVar 9) (wC (.int 1)))) (wCons (wVar 11) wNil))) (wVar 8) (wOp dAdd (wVar 9) (wC (.int 1))))))
theorem mled_go (p : Pl) (hp : PlOk p) (hf : Falls (ch p)) (h j : Nat) (hj : j < h) (hh : h ≤ 16) (M B : Nat) (hM : 0 < M) (hB : 0 < B) (hb : M * B < 2 ^ 4400) (mu : MS) (Δ : DEnds) (r1 r2 r4 r5 r6 : Option D) : ∀ (qs done : List Rat) (a : Rat) (r9 r10 r11 : Option D), done.length + qs.length ≤ 20 → (∀ i, i < done.length + qs.length → IsM B (mgc (ch p) h j i)) → Gd (M * B) a → (∀ q ∈ qs, Gd M q) →
    (∀ r9 r10 r11, Δ.nx [some (plD p), r1, r2, some (.int (h : Int)), r4, r5, r6, some (fr (ch p j)⁻¹), some (.loc mu.length), r9, r10, r11] (mu ++ [.lst ((done ++ led (mgc (ch p) h j) done.length a qs).map fr)])) →
    wForGo (dgTup 2 (dgCons (dgName 9) (dgCons (dgName 10) dgNil))) w_mg_in (enD done.length (qs.map fr))
      [some (plD p), r1, r2, some (.int (h : Int)), r4, r5, r6, some (fr (ch p j)⁻¹), some (.loc mu.length), r9, r10, r11] (mu ++ [.lst ((done ++ a :: List.replicate qs.length 0).map fr)]) Δ X0
  | [], done, a, r9, r10, r11, hl, hm, ha, hq, k => k r9 r10 r11
  | q :: qs, done, a, r9, r10, r11, hl, hm, ha, hq, k => by
    rw [List.length_cons] at hl
    have hMB : 0 < M * B := Nat.mul_pos hM hB
    have g0 := hq q List.mem_cons_self
    have gc := mgc_ch (ch_ok hp) hf (show j ≤ h by omega) done.length
    have ic := hm done.length (by rw [List.length_cons]; omega)
    have iu : IsM (M * B) (q * mgc (ch p) h j done.length) := isM_mul g0.2.2 ic
    have u0 : 0 ≤ q * mgc (ch p) h j done.length := Rat.mul_nonneg g0.1 (Rat.le_of_lt gc.1)
    have u1 : q * mgc (ch p) h j done.length ≤ q := by
      have := Rat.mul_le_mul_of_nonneg_left gc.2 g0.1
      rw [Rat.mul_one] at this
      exact this
    have hbM : M < 2 ^ 4400 := Nat.lt_of_le_of_lt (Nat.le_mul_of_pos_right _ hB) hb
    have hbB : B < 2 ^ 4400 := Nat.lt_of_le_of_lt (Nat.le_mul_of_pos_left _ hM) hb
    have gu : Gd (M * B) (q * mgc (ch p) h j done.length) := ⟨u0, Rat.le_trans u1 g0.2.1, iu⟩
    have gs : Gd (M * B) (q - q * mgc (ch p) h j done.length) := ⟨by grind, by have := g0.2.1; grind, isM_sub (isM_of_mul g0.2.2) iu⟩
    have gz : Gd (M * B) 0 := ⟨Rat.le_refl, by decide, isM_zero⟩
    have fi : Fit 4400 (ch p j)⁻¹ := (fit_invN (fit_chN hp (i := j) (by omega)) (ch_ok hp j).1).mono (by decide)
    show wForGo _ _ (.tup [.int (done.length : Int), fr q] :: enD (done.length + 1) (qs.map fr)) _ _ _ _
    unfold wForGo w_mg_in
    walk_at "dl"
    refine ⟨p, h + done.length, by rw [Int.natCast_add], hp, by omega, ?_⟩
    unfold stD
    walk_at "dl"
    refine ⟨ch p (h + done.length), (ch p j)⁻¹, rfl, (fit_chN hp (by omega)).mono (by decide), fi, ?_⟩
    refine ⟨q, mgc (ch p) h j done.length, rfl, g0.fit hM hbM, fit_pr hB ic hbB (Rat.le_of_lt gc.1) gc.2, ?_⟩
    dsimp only
    rw [get_last]
    walk_at "dl"
    have e1 : atI ((done ++ a :: 0 :: List.replicate qs.length 0).map fr) (done.length : Int) = some (fr a) := by
      rw [atI_n, List.getElem?_map, List.getElem?_append_right (Nat.le_refl _), Nat.sub_self]
      rfl
    rw [e1]
    dsimp only
    refine ⟨_, _, rfl, g0.fit hM hbM, gu.fit hMB hb, ?_⟩
    refine ⟨_, _, rfl, ha.fit hMB hb, gs.fit hMB hb, ?_⟩
    dsimp only
    rw [get_last]
    dsimp only
    rw [ixN_n (by simp)]
    dsimp only
    rw [set_last]
    have e2 : ((done ++ a :: 0 :: List.replicate qs.length 0).map fr).set done.length (fr (a + (q - q * mgc (ch p) h j done.length))) = ((done ++ [a + (q - q * mgc (ch p) h j done.length)]) ++ 0 :: List.replicate qs.length 0).map fr := by
      rw [List.map_append, List.set_append_right _ _ (by simp), List.length_map, Nat.sub_self, List.map_cons, List.set_cons_zero, List.append_assoc, List.map_append]
      rfl
    rw [e2]
    rw [get_last]
    dsimp only
    have e3 : (done.length : Int) + 1 = ((done ++ [a + (q - q * mgc (ch p) h j done.length)]).length : Int) := by simp
    rw [e3]
    have e4 : atI (((done ++ [a + (q - q * mgc (ch p) h j done.length)]) ++ 0 :: List.replicate qs.length 0).map fr) ((done ++ [a + (q - q * mgc (ch p) h j done.length)]).length : Int) = some (fr 0) := by
      rw [atI_n, List.getElem?_map, List.getElem?_append_right (Nat.le_refl _), Nat.sub_self]
      rfl
    rw [e4]
    dsimp only
    refine ⟨_, _, rfl, gz.fit hMB hb, gu.fit hMB hb, ?_⟩
    dsimp only
    rw [get_last]
    dsimp only
    rw [ixN_n (by simp)]
    dsimp only
    rw [set_last]
    have e5 : (((done ++ [a + (q - q * mgc (ch p) h j done.length)]) ++ 0 :: List.replicate qs.length 0).map fr).set (done ++ [a + (q - q * mgc (ch p) h j done.length)]).length (fr (0 + q * mgc (ch p) h j done.length)) = ((done ++ [a + (q - q * mgc (ch p) h j done.length)]) ++ (q * mgc (ch p) h j done.length) :: List.replicate qs.length 0).map fr := by
      rw [List.map_append, List.set_append_right _ _ (by simp), List.length_map, Nat.sub_self, List.map_cons, List.set_cons_zero, Rat.zero_add]
      simp
    rw [e5]
    have hd : done.length + 1 = (done ++ [a + (q - q * mgc (ch p) h j done.length)]).length := by simp
    rw [hd]
    refine mled_go p hp hf h j hj hh M B hM hB hb mu Δ r1 r2 r4 r5 r6 qs (done ++ [a + (q - q * mgc (ch p) h j done.length)]) (q * mgc (ch p) h j done.length) _ _ _ (by simp; omega) (fun i hi => hm i (by rw [← hd] at hi; rw [List.length_cons]; omega)) gu (fun x hx => hq x (List.mem_cons_of_mem _ hx)) fun r9 r10 r11 => ?_
    have h2 := k r9 r10 r11
    have e6 : done ++ led (mgc (ch p) h j) done.length a (q :: qs) = (done ++ [a + (q - q * mgc (ch p) h j done.length)]) ++ led (mgc (ch p) h j) (done ++ [a + (q - q * mgc (ch p) h j done.length)]).length (q * mgc (ch p) h j done.length) qs := by
      rw [← hd, List.append_assoc]
      rfl
    rw [e6] at h2
    exact h2
theorem max_nat (a b : Nat) : max (a : Int) (b : Int) = ((max a b : Nat) : Int) := by omega
theorem min_nat (a b : Nat) : min (a : Int) (b : Int) = ((min a b : Nat) : Int) := by omega
theorem nlL_fr (n : Nat) : ∀ l : List Rat, nlL n (l.map fr) = true
  | [] => rfl
  | x :: r => by
    rw [List.map_cons]
    unfold nlL
    rw [nlL_fr n r]
    rfl
theorem rep_fr0 : ∀ n : Nat, (List.replicate n [D.tup [.int 0, .int 1]]).flatten = (List.replicate n (0 : Rat)).map fr
  | 0 => rfl
  | n + 1 => by
    rw [List.replicate_succ, List.flatten_cons, rep_fr0 n]
    rfl
theorem rd_merged_by : ∀ ds mu Φ, sp_merged_by ds mu Φ X0 → w_merged_by (startD 12 ds) mu ⟨fun _ mu' => fin mu Φ .non mu', fin mu Φ, fun _ _ => False, fun _ _ => False⟩ X0 := by
  rintro _ mu Φ ⟨p, a, b, rfl, hp, ha, hb, hf, ⟨B, hB, hm, hs⟩, h⟩
  unfold w_merged_by
  refine seq_cut fun R e => ?_
  walk_at "dl"
  rw [max_nat, min_nat]
  subst e
  have hmx : max a b ≤ 16 := by omega
  have hmn : min a b ≤ max a b := by omega
  generalize hH : max a b = H at hm h hmx hmn
  generalize hL : min a b = L at hm h hs hmn
  refine seq_cut fun R e => ?_
  walk_at "dl"
  subst e
  refine seq_cut fun R e => ?_
  unfold wFor wR1
  walk_at "dl"
  refine ⟨by omega, by omega, ?_⟩
  rw [Int.toNat_natCast, rgD0]
  refine for_inv (fun j ρ S => S.take mu.length = mu ∧ j ≤ L ∧ ∃ r6 r7 r8 r9 r10 r11, ρ = [some (plD p), some (.int (a : Int)), some (.int (b : Int)), some (.int (H : Int)), some (.int (L : Int)), some (.lst ((mg (ch p) H j).map fr)), r6, r7, r8, r9, r10, r11]) ⟨List.take_length, Nat.zero_le _, none, none, none, none, none, none, rfl⟩ (fun j d ρ S Kp hd hI hK => ?_) fun ρ S hI => ?_
  · obtain ⟨hS, hjL, r6, r7, r8, r9, r10, r11, rfl⟩ := hI
    obtain ⟨hj, rfl⟩ := range_at hd
    unfold dgName
    simp only [List.set]
    refine seq_cut fun R e => ?_
    walk_at "dl"
    refine ⟨p, j, rfl, hp, by omega, ?_⟩
    unfold stD
    walk_at "dl"
    refine ⟨ch p j, rfl, (ch_ok hp j).1, (fit_chN hp (by omega)).mono (by decide), ?_⟩
    try walk_at "dl"
    subst e
    refine seq_cut fun R e => ?_
    unfold dMulM
    walk_at "dl"
    rw [List.length_map, mg_length]
    refine ⟨⟨by omega, by omega, by decide⟩, ?_⟩
    rw [rep_fr0, show (((j + 1 : Nat) : Int) + 1).toNat = j + 1 + 1 by omega]
    subst e
    refine seq_cut fun R e => ?_
    unfold wEn
    walk_at "dl"
    have hBj : B ^ j * B < 2 ^ 4400 := by
      rw [← Nat.pow_succ]
      exact Nat.lt_of_le_of_lt (Nat.pow_le_pow_right hB hj) hs
    have hgd : ∀ q ∈ mg (ch p) H j, Gd (B ^ j) q := fun q hq => ⟨mg_nonneg (ch_ok hp) hf j (by omega) q hq, mg_le (ch_ok hp) hf (by omega) hq, mg_isM hm j (by omega) q hq⟩
    have el : j + 1 = (mg (ch p) H j).length := (mg_length _ _ _).symm
    rw [show fr 0 :: fr 0 :: List.map fr (List.replicate j (0 : Rat)) = (([] : List Rat) ++ 0 :: List.replicate (mg (ch p) H j).length 0).map fr by rw [← el]; rfl]
    refine mled_go p hp hf H j (by omega) hmx (B ^ j) B (Nat.pow_pos hB) hB hBj S _ _ _ _ _ _ (mg (ch p) H j) [] 0 _ _ _ (by rw [mg_length]; show 0 + (j + 1) ≤ 20; omega) (fun i hi => hm j hj i (by rw [mg_length] at hi; have : ([] : List Rat).length = 0 := rfl; omega)) ⟨Rat.le_refl, by decide, isM_zero⟩ hgd fun r9 r10 r11 => ?_
    subst e
    unfold wFrz
    walk_at "dl"
    rw [get_last]
    walk_at "dl"
    rw [set_last]
    refine hK _ _ ⟨?_, by omega, _, _, _, _, _, _, rfl⟩
    have hl : mu.length ≤ S.length := by rw [← hS, List.length_take]; omega
    rw [List.take_append_of_le_length hl]
    exact hS
  · obtain ⟨hS, hjL, r6, r7, r8, r9, r10, r11, rfl⟩ := hI
    rw [List.length_map, List.length_range]
    subst e
    walk_at "dl"
    exact fin_take (nlL_fr _ _) hS h
end DL
set_option maxHeartbeats 4000000
/-! SPZ: all registers put together. -/
namespace DL
open PySem PySem.Spec PyProof.Rows L2
local macro_rules | `(tactic| walk_at "dl") => `(tactic| simp only [wSeq, wAsg, wRet, wVar, wC, wOp, wUn, wTest, wChain, wTru, wAnd, wOr, wNot, wAndV, wOrV, wNotV, wIf, wNil, wCons, wTup, wLst, wLstM, wCall0, wCall, wRaise, wB, wSl, wPart, wNoPart, wNext, wDrop, wIfS, wPar, wAsgG, wSetI, wApp, dgName, dgTup, dgCons, dgNil, gt, List.set, dAdd, dSub, dMul, dFdiv, dMod, dPow, dNeg, dCmpI, dEq, dNe, dIsN, dNotN, isN, dLen, dIsi, tyD, dAbs, dMax, dMin, dInt, dBool, dTuple, dList, dIx, dSl, atI_0, atI_1, atI_2, atI_3, eqd_int, okd_int,
  List.getElem?_cons_zero, List.getElem?_cons_succ, List.length_cons, List.length_nil, startD, List.map_cons, List.map_nil, List.cons_append, List.nil_append, List.append_nil, List.replicate, List.replicate_zero, List.replicate_succ, Nat.sub_self, if_true, if_false, Bool.false_eq_true, ite_true, ite_false, reduceIte, true_and, and_true, decide_true, decide_false, Bool.not_true, Bool.not_false, Nat.reduceSub, Nat.reduceAdd])
local macro_rules | `(tactic| walk_at "ty") => `(tactic| simp only [isT_0, isT_1, isT_2, isT_3, isT_4, isT_5, isT_6, isT_7, isT_8, isT_9, isT_10, isT_11, isT_12, isT_13, isT_14, isT_15, isT_16, isT_17, isT_18, isT_19, isT_20, isT_21, isT_22, isT_23, isT_24, isT_25, isT_26, isT_27, isT_28, isT_29, memT_0, memT_1, memT_2, memT_3, memT_4, true_and, Bool.not_true, Bool.not_false])
abbrev mgD (p : Pl) (a b : Nat) : D := .tup ((mg (ch p) (max a b) (min a b)).map fr)
/-- how a promise of the falling ask is kept -/
def spF (N : Nat) (bad : Str) (C : Pl → Nat → Nat → Prop) (f : Pl → Nat → Nat → D) (mg : Str → Option Value) : DSp := fun ds mu Φ Ξ => ∃ v a b : D, ds = [v, a, b] ∧ pl v = true ∧ pl a = true ∧ pl b = true ∧ (isPl v = false → Ξ (cl mg "InvalidPlan") [] mu) ∧ ∀ p, v = plD p → PlOk p →
  (fallB p = false → Ξ (cl mg "NotFalling") [] mu) ∧ (fallB p = true → inR a 0 N = false → Ξ (cl mg bad) [] mu) ∧ (fallB p = true → inR a 0 N = true → inR b 0 N = false → Ξ (cl mg bad) [] mu) ∧
  ∀ i j, fallB p = true → a = .int (i : Nat) → b = .int (j : Nat) → i ≤ N → j ≤ N → C p i j ∧ Φ (f p i j) mu
abbrev sp_merged (mg : Str → Option Value) : DSp := spF 16 "InvalidLevel" (fun p i j => MgOk p (max i j) (min i j)) mgD mg
def w_merged (mg : Str → Option Value) : DWS := (wSeq (wDrop (wCall (sp_need_falling mg) (wCons (wVar 0) wNil)))
    (wSeq (wDrop (wCall (sp_need_level mg) (wCons (wVar 1) wNil)))
    (wSeq (wDrop (wCall (sp_need_level mg) (wCons (wVar 2) wNil)))
    (wRet (wB dTuple (wCons (wCall0 sp_merged_by (wCons (wVar 0) (wCons (wVar 1) (wCons (wVar 2) wNil)))) wNil))))))
theorem rd_merged (mg : Str → Option Value) : ∀ ds mu Φ Ξ, sp_merged mg ds mu Φ Ξ → w_merged mg (startD 3 ds) mu ⟨fun _ mu' => fin mu Φ .non mu', fin mu Φ, fun _ _ => False, fun _ _ => False⟩ (finX mu Ξ) := by
  rintro _ mu Φ Ξ ⟨v, a, b, rfl, hv, ha, hb, h1, h2⟩
  unfold w_merged
  refine seq_cut fun R e => ?_
  walk_at "dl"
  refine ⟨v, rfl, hv, fun hp => .inl (h1 hp), fun p e2 ok => ⟨fun hf => ?_, fun hf => .inl ((h2 p e2 ok).1 hf)⟩⟩
  subst e2
  obtain ⟨h3, h4, h5, h6⟩ := h2 p rfl ok
  try walk_at "dl"
  subst e
  walk_at "dl"
  refine ⟨a, rfl, ha, fun hi => ?_, fun hi => .inl (h4 hf hi)⟩
  refine ⟨b, rfl, hb, fun hj => ?_, fun hj => .inl (h5 hf hi hj)⟩
  rcases inR_or a 16 with ⟨i, rfl, hi2, _⟩ | z
  · rcases inR_or b 16 with ⟨j, rfl, hj2, _⟩ | z
    · obtain ⟨c, d⟩ := h6 i j hf rfl rfl hi2 hj2
      refine ⟨p, i, j, rfl, ok, hi2, hj2, fallB_falls ok hf, c, ?_⟩
      try walk_at "dl"
      exact .inl d
    · rw [show ((16 : Nat) : Int) = 16 from rfl, hj] at z
      cases z
  · rw [show ((16 : Nat) : Int) = 16 from rfl, hi] at z
    cases z
def McOk (p : Pl) (n m : Nat) : Prop := ∃ A1 A2 B : Nat, 0 < A1 ∧ 0 < A2 ∧ 0 < B ∧ (∀ q ∈ chs (ch p) n, Gd A1 q) ∧ (∀ q ∈ chs (ch p) m, Gd A2 q) ∧ (∀ a b, a ≤ n → b ≤ m → MgB (ch p) (max a b) (min a b) B) ∧ A1 * A2 * B ^ min n m * 1000 < 2 ^ 4400
abbrev sp_merged_chances (mg : Str → Option Value) : DSp := spF 8 "InvalidCount" McOk (fun p n m => .tup ((chs (ch p) (n + m)).map fr)) mg
def tab (N : Nat) (f : Nat → Rat) : List D := ((List.range N).map f).map fr
theorem tab_get {N : Nat} {f : Nat → Rat} {x : Nat} (h : x < N) : (tab N f)[x]? = some (fr (f x)) := by
  unfold tab
  rw [List.getElem?_map, List.getElem?_map, List.getElem?_range h]
  rfl
theorem tab_len (N : Nat) (f : Nat → Rat) : (tab N f).length = N := by
  unfold tab
  rw [List.length_map, List.length_map, List.length_range]
theorem tab_set {N : Nat} {f : Nat → Rat} {x : Nat} (t : Rat) (h : x < N) : (tab N f).set x (fr (f x + t)) = tab N fun l => f l + t * dlt x l := by
  refine List.ext_getElem? fun i => ?_
  by_cases hi : i < N
  · rw [tab_get hi, List.getElem?_set]
    by_cases hx : x = i
    · subst hx
      rw [if_pos rfl, if_pos (by rw [tab_len]; exact h)]
      unfold dlt
      rw [if_pos rfl, Rat.mul_one]
    · rw [if_neg hx, tab_get hi]
      unfold dlt
      rw [if_neg (fun z => hx z.symm), Rat.mul_zero, Rat.add_zero]
  · rw [List.getElem?_eq_none (by rw [List.length_set, tab_len]; omega), List.getElem?_eq_none (by rw [tab_len]; omega)]
/-- what one term gives -/
def tm (c : Wt) (n m a b i : Nat) : Rat := Pc c n a * Pc c m b * (mg c (max a b) (min a b)).getD i 0
def FF (c : Wt) (n m a b i : Nat) : Wt := fun l => su a (fun a' => su (m + 1) fun b' => jn c n m a' b' l) + su b (fun b' => jn c n m a b' l) + su i (fun i' => tm c n m a b i' * dlt (max a b + i') l)
theorem FF_i (c : Wt) (n m a b i : Nat) : FF c n m a b (i + 1) = fun l => FF c n m a b i l + tm c n m a b i * dlt (max a b + i) l := by
  funext l
  show _ + _ + (su i _ + tm c n m a b i * dlt (max a b + i) l) = _ + _ + su i _ + _
  rw [Rat.add_assoc, Rat.add_assoc, Rat.add_assoc]
theorem FF_b (c : Wt) (n m a b : Nat) : FF c n m a (b + 1) 0 = FF c n m a b (min a b + 1) := by
  funext l
  show _ + (su b _ + jn c n m a b l) + 0 = _ + su b _ + jn c n m a b l
  rw [Rat.add_zero, Rat.add_assoc]
theorem FF_a (c : Wt) (n m a : Nat) : FF c n m (a + 1) 0 0 = FF c n m a (m + 1) 0 := by
  funext l
  show su a _ + su (m + 1) _ + 0 + 0 = su a _ + su (m + 1) _ + 0
  rw [Rat.add_zero]
theorem FF_0 (c : Wt) (n m : Nat) : FF c n m 0 0 0 = fun _ => 0 := by
  funext l
  show (0 : Rat) + 0 + 0 = 0
  rw [Rat.add_zero, Rat.add_zero]
theorem FF_end {c : Wt} (hc : ∀ i, c i ≠ 0) (n m : Nat) : tab (n + m + 1) (FF c n m (n + 1) 0 0) = (chs c (n + m)).map fr := by
  unfold tab
  rw [chs_tab]
  congr 2
  funext l
  show su (n + 1) _ + 0 + 0 = _
  rw [Rat.add_zero, Rat.add_zero, jn_all hc]
theorem su_sz {M N : Nat} {f : Nat → Rat} : ∀ n, (∀ i, i < n → Sz M N (f i)) → Sz M (n * N) (su n f)
  | 0, _ => Sz.zero
  | n + 1, h => by
    rw [Nat.succ_mul]
    exact Sz.add (su_sz n fun i hi => h i (by omega)) (h n (by omega))
theorem tm_gd {p : Pl} (hp : PlOk p) (hf : Falls (ch p)) {n m A1 A2 B : Nat} (h1 : 0 < A1) (h2 : 0 < A2) (hB : 0 < B) (g1 : ∀ q ∈ chs (ch p) n, Gd A1 q) (g2 : ∀ q ∈ chs (ch p) m, Gd A2 q) (hm : ∀ a b, a ≤ n → b ≤ m → MgB (ch p) (max a b) (min a b) B) {a b i : Nat} (ha : a ≤ n) (hb : b ≤ m) (hi : i ≤ min a b) :
    Gd A1 (Pc (ch p) n a) ∧ Gd A2 (Pc (ch p) m b) ∧ Gd (B ^ min n m) ((mg (ch p) (max a b) (min a b)).getD i 0) := by
  refine ⟨?_, ?_, ?_⟩
  · rw [← chs_Pc]
    refine g1 _ (List.mem_of_getElem? (i := a) ?_)
    rw [List.getD_eq_getElem?_getD, List.getElem?_eq_getElem (by rw [chs_length]; omega)]
    rfl
  · rw [← chs_Pc]
    refine g2 _ (List.mem_of_getElem? (i := b) ?_)
    rw [List.getD_eq_getElem?_getD, List.getElem?_eq_getElem (by rw [chs_length]; omega)]
    rfl
  · have hm1 : (mg (ch p) (max a b) (min a b)).getD i 0 ∈ mg (ch p) (max a b) (min a b) := by
      refine List.mem_of_getElem? (i := i) ?_
      rw [List.getD_eq_getElem?_getD, List.getElem?_eq_getElem (by rw [mg_length]; omega)]
      rfl
    exact ⟨mg_nonneg (ch_ok hp) hf _ (by omega) _ hm1, mg_le (ch_ok hp) hf (by omega) hm1, isM_dvd (mg_isM (hm a b ha hb) _ (Nat.le_refl _) _ hm1) (Nat.pow_dvd_pow _ (by omega))⟩
theorem gd_mul {M N : Nat} {x y : Rat} (hx : Gd M x) (hy : Gd N y) : Gd (M * N) (x * y) := by
  refine ⟨Rat.mul_nonneg hx.1 hy.1, ?_, isM_mul hx.2.2 hy.2.2⟩
  have := Rat.mul_le_mul_of_nonneg_left hy.2.1 hx.1
  rw [Rat.mul_one] at this
  exact Rat.le_trans this hx.2.1
theorem dlt_gd (h l : Nat) : Gd 1 (dlt h l) := by
  unfold dlt
  split
  · exact ⟨by decide, Rat.le_refl, isM_one⟩
  · exact ⟨Rat.le_refl, by decide, isM_zero⟩
theorem gd_sz {M : Nat} {q : Rat} (hM : 0 < M) (h : Gd M q) : Sz M M q := Sz.unit hM h.2.2 h.1 h.2.1
theorem FF_sz {c : Wt} {n m M a b i l : Nat} (hM : 0 < M) (hg : ∀ a b i, a ≤ n → b ≤ m → i ≤ min a b → Gd M (tm c n m a b i)) (hn : n ≤ 8) (hm : m ≤ 8) (ha : a ≤ n + 1) (ha2 : a ≤ n ∨ b = 0) (hb : b ≤ m + 1) (hb2 : b ≤ m ∨ i = 0) (ha3 : a ≤ n ∨ i = 0) (hi : i ≤ min a b + 1) : Sz M (1000 * M) (FF c n m a b i l) := by
  have ht : ∀ a b i, a ≤ n → b ≤ m → i ≤ min a b → Sz M M (tm c n m a b i * dlt (max a b + i) l) := fun a b i h1 h2 h3 => by
    have := gd_sz (by rw [Nat.mul_one]; exact hM) (gd_mul (hg a b i h1 h2 h3) (dlt_gd (max a b + i) l))
    rw [Nat.mul_one] at this
    exact this
  have hj : ∀ a b, a ≤ n → b ≤ m → Sz M (9 * M) (jn c n m a b l) := fun a b h1 h2 =>
    (su_sz (min a b + 1) fun i hi => ht a b i h1 h2 (by omega)).mono (Nat.mul_le_mul_right _ (by omega))
  have h1 : Sz M (729 * M) (su a fun a' => su (m + 1) fun b' => jn c n m a' b' l) := by
    refine (su_sz (N := 81 * M) a fun a' ha' => (su_sz (m + 1) fun b' hb' => hj a' b' (by omega) (by omega)).mono ?_).mono ?_
    · rw [← Nat.mul_assoc]
      exact Nat.mul_le_mul_right _ (by omega)
    · rw [← Nat.mul_assoc]
      exact Nat.mul_le_mul_right _ (by omega)
  have h2 : Sz M (81 * M) (su b fun b' => jn c n m a b' l) := by
    rcases ha2 with h | h
    · refine (su_sz (N := 9 * M) b fun b' hb' => hj a b' h (by omega)).mono ?_
      rw [← Nat.mul_assoc]
      exact Nat.mul_le_mul_right _ (by omega)
    · subst h
      exact Sz.zero
  have h3 : Sz M (9 * M) (su i fun i' => tm c n m a b i' * dlt (max a b + i') l) := by
    by_cases h0 : i = 0
    · subst h0
      exact Sz.zero
    · exact (su_sz i fun i' hi' => ht a b i' (by omega) (by omega) (by omega)).mono (Nat.mul_le_mul_right _ (by omega))
  refine ((h1.add h2).add h3).mono ?_
  omega
def w_merged_chances (mg : Str → Option Value) : DWS := (wSeq (wDrop (wCall (sp_need_falling mg) (wCons (wVar 0) wNil)))
    (wSeq (wDrop (wCall (sp_need_count mg) (wCons (wVar 1) (wCons (wC (.int 8)) wNil))))
    (wSeq (wDrop (wCall (sp_need_count mg) (wCons (wVar 2) (wCons (wC (.int 8)) wNil))))
    (wSeq (wAsg 3 (wOp dMulM (wLst (wCons (wTup (wCons (wC (.int 0)) (wCons (wC (.int 1)) wNil))) wNil)) (wOp dAdd (wOp dAdd (wVar 1) (wVar 2)) (wC (.int 1)))))
    (wSeq (wFor (wEn (wCons (wCall0 sp_chances_by (wCons (wVar 0) (wCons (wLst (wCons (wTup (wCons (wC (.int 1)) (wCons (wC (.int 1)) wNil))) wNil)) (wCons (wVar 1) wNil)))) wNil)) (dgTup 2 (dgCons (dgName 4) (dgCons (dgName 5) dgNil))) (wFor (wEn (wCons (wCall0 sp_chances_by (wCons (wVar 0) (wCons (wLst (wCons (wTup (wCons (wC (.int 1)) (wCons (wC (.int 1)) wNil))) wNil)) (wCons (wVar 2) wNil)))) wNil)) (dgTup 2 (dgCons (dgName 6) (dgCons (dgName 7) dgNil))) (wFor (wEn (wCons (wCall0 sp_merged_by (wCons (wVar 0) (wCons (wVar 4) (wCons (wVar 6) wNil)))) wNil)) (dgTup 2 (dgCons (dgName 8) (dgCons (dgName 9) dgNil))) (wSeq (wAsg 10 (wOp dAdd (wB dMax (wCons (wVar 4) (wCons (wVar 6) wNil))) (wVar 8)))
    (wSetI (wCall0 sp_plus (wCons (wOp dIx (wVar 3) (wVar 10)) (wCons (wCall0 sp_times (wCons (wCall0 sp_times (wCons (wVar 5) (wCons (wVar 7) wNil))) (wCons (wVar 9) wNil))) wNil))) (wVar 3) (wVar 10))))))
    (wRet (wB dTuple (wCons (wVar 3) wNil))))))))
theorem rd_merged_chances (mg : Str → Option Value) : ∀ ds mu Φ Ξ, sp_merged_chances mg ds mu Φ Ξ → w_merged_chances mg (startD 11 ds) mu ⟨fun _ mu' => fin mu Φ .non mu', fin mu Φ, fun _ _ => False, fun _ _ => False⟩ (finX mu Ξ) := by
  rintro _ mu Φ Ξ ⟨v, a, b, rfl, hv, ha, hb, h1, h2⟩
  unfold w_merged_chances
  refine seq_cut fun R e => ?_
  walk_at "dl"
  refine ⟨v, rfl, hv, fun hp => .inl (h1 hp), fun p e2 ok => ⟨fun hf => ?_, fun hf => .inl ((h2 p e2 ok).1 hf)⟩⟩
  subst e2
  obtain ⟨h3, h4, h5, h6⟩ := h2 p rfl ok
  clear h1 h2
  try walk_at "dl"
  subst e
  refine seq_cut fun R e => ?_
  walk_at "dl"
  refine ⟨a, 8, rfl, ha, fun hi => ?_, fun hi => .inl (h4 hf hi)⟩
  subst e
  refine seq_cut fun R e => ?_
  walk_at "dl"
  refine ⟨b, 8, rfl, hb, fun hj => ?_, fun hj => .inl (h5 hf hi hj)⟩
  rcases inR_or a 8 with ⟨n, rfl, hn, _⟩ | z
  · rcases inR_or b 8 with ⟨m, rfl, hm, _⟩ | z
    · obtain ⟨⟨A1, A2, B, p1, p2, pB, g1, g2, gm, hs⟩, hΦ⟩ := h6 n m hf rfl rfl hn hm
      clear h3 h4 h5 h6
      have fl := fallB_falls ok hf
      have hcn : ∀ i, ch p i ≠ 0 := fun i => Rat.ne_of_gt (ch_ok ok i).1
      subst e
      refine seq_cut fun R e => ?_
      unfold dMulM
      walk_at "dl"
      refine ⟨⟨by omega, by omega, by decide⟩, ?_⟩
      rw [rep_fr0, show ((n : Int) + (m : Int) + 1).toNat = n + m + 1 by omega]
      have e0 : (List.replicate (n + m + 1) (0 : Rat)).map fr = tab (n + m + 1) (FF (ch p) n m 0 0 0) := by
        rw [FF_0]
        unfold tab
        congr 1
        refine List.ext_getElem? fun i => ?_
        rw [List.getElem?_map, List.getElem?_replicate]
        by_cases h : i < n + m + 1
        · rw [if_pos h, List.getElem?_range h]
          rfl
        · rw [if_neg h, List.getElem?_eq_none (by rw [List.length_range]; omega)]
          rfl
      rw [e0]
      have hM : 0 < A1 * A2 * B ^ min n m := Nat.mul_pos (Nat.mul_pos p1 p2) (Nat.pow_pos pB)
      have hM44 : A1 * A2 * B ^ min n m < 2 ^ 4400 := Nat.lt_of_le_of_lt (Nat.le_mul_of_pos_right _ (by decide)) hs
      have hM1 : A1 * A2 < 2 ^ 4400 := Nat.lt_of_le_of_lt (Nat.le_mul_of_pos_right _ (Nat.pow_pos pB)) hM44
      have hM2 : B ^ min n m < 2 ^ 4400 := Nat.lt_of_le_of_lt (Nat.le_mul_of_pos_left _ (Nat.mul_pos p1 p2)) hM44
      have hA1 : A1 < 2 ^ 4400 := Nat.lt_of_le_of_lt (Nat.le_mul_of_pos_right _ p2) hM1
      have hA2 : A2 < 2 ^ 4400 := Nat.lt_of_le_of_lt (Nat.le_mul_of_pos_left _ p1) hM1
      have hg : ∀ a b i, a ≤ n → b ≤ m → i ≤ min a b → Gd (A1 * A2 * B ^ min n m) (tm (ch p) n m a b i) := fun a b i x y z => by
        obtain ⟨q1, q2, q3⟩ := tm_gd ok fl p1 p2 pB g1 g2 gm x y z
        exact gd_mul (gd_mul q1 q2) q3
      subst e
      refine seq_cut fun R e => ?_
      unfold wFor wEn
      walk_at "dl"
      refine ⟨p, n, rfl, ok, by omega, ?_⟩
      dsimp only
      refine for_inv (fun a ρ S => S = mu ++ [.lst (tab (n + m + 1) (FF (ch p) n m a 0 0))] ∧ ∃ r4 r5 r6 r7 r8 r9 r10, ρ = [some (plD p), some (.int (n : Int)), some (.int (m : Int)), some (.loc mu.length), r4, r5, r6, r7, r8, r9, r10]) ⟨rfl, none, none, none, none, none, none, none, rfl⟩ (fun a d ρ S Kp hd hI hK => ?_) fun ρ S hI => ?_
      · obtain ⟨rfl, r4, r5, r6, r7, r8, r9, r10, rfl⟩ := hI
        obtain ⟨qa, hqa, rfl⟩ := enD_at hd
        have haL := (List.getElem?_eq_some_iff.mp hqa).1
        rw [chs_length] at haL
        have eqa : qa = Pc (ch p) n a := by rw [← chs_Pc]; exact (getD_of hqa).symm
        subst eqa
        walk_at "dl"
        refine ⟨p, m, rfl, ok, by omega, ?_⟩
        dsimp only
        refine for_inv (fun b ρ S => S = mu ++ [.lst (tab (n + m + 1) (FF (ch p) n m a b 0))] ∧ ∃ r6 r7 r8 r9 r10, ρ = [some (plD p), some (.int (n : Int)), some (.int (m : Int)), some (.loc mu.length), some (.int (a : Int)), some (fr (Pc (ch p) n a)), r6, r7, r8, r9, r10]) ⟨rfl, _, _, _, _, _, rfl⟩ (fun b d ρ S Kp2 hd2 hI hK2 => ?_) fun ρ S hI => ?_
        · obtain ⟨rfl, r6, r7, r8, r9, r10, rfl⟩ := hI
          obtain ⟨qb, hqb, rfl⟩ := enD_at hd2
          have hbL := (List.getElem?_eq_some_iff.mp hqb).1
          rw [chs_length] at hbL
          have eqb : qb = Pc (ch p) m b := by rw [← chs_Pc]; exact (getD_of hqb).symm
          subst eqb
          walk_at "dl"
          refine ⟨p, a, b, rfl, ok, by omega, by omega, fl, ⟨B, pB, gm a b (by omega) (by omega), Nat.lt_of_le_of_lt (Nat.pow_le_pow_right pB (by omega)) hM2⟩, ?_⟩
          dsimp only
          refine for_inv (fun i ρ S => S = mu ++ [.lst (tab (n + m + 1) (FF (ch p) n m a b i))] ∧ ∃ r8 r9 r10, ρ = [some (plD p), some (.int (n : Int)), some (.int (m : Int)), some (.loc mu.length), some (.int (a : Int)), some (fr (Pc (ch p) n a)), some (.int (b : Int)), some (fr (Pc (ch p) m b)), r8, r9, r10]) ⟨rfl, _, _, _, rfl⟩ (fun i d ρ S Kp3 hd3 hI hK3 => ?_) fun ρ S hI => ?_
          · obtain ⟨rfl, r8, r9, r10, rfl⟩ := hI
            obtain ⟨qi, hqi, rfl⟩ := enD_at hd3
            have hiL := (List.getElem?_eq_some_iff.mp hqi).1
            rw [mg_length] at hiL
            have eqi : qi = (DL.mg (ch p) (max a b) (min a b)).getD i 0 := (getD_of hqi).symm
            subst eqi
            obtain ⟨q1, q2, q3⟩ := tm_gd ok fl p1 p2 pB g1 g2 gm (show a ≤ n by omega) (show b ≤ m by omega) (show i ≤ min a b by omega)
            have ex : max (a : Int) (b : Int) + (i : Int) = ((max a b + i : Nat) : Int) := by omega
            have hx : max a b + i < n + m + 1 := by omega
            walk_at "dl"
            rw [ex, get_last]
            dsimp only
            rw [atI_n, tab_get hx]
            dsimp only
            refine ⟨_, _, rfl, q1.fit p1 hA1, q2.fit p2 hA2, ?_⟩
            refine ⟨_, _, rfl, (gd_mul q1 q2).fit (Nat.mul_pos p1 p2) hM1, q3.fit (Nat.pow_pos pB) hM2, ?_⟩
            refine ⟨FF (ch p) n m a b i (max a b + i), tm (ch p) n m a b i, rfl, fit_sz hM (FF_sz hM hg hn hm (by omega) (by omega) (by omega) (by omega) (by omega) (by omega)) hM44 (by rw [Nat.mul_comm]; exact hs), (hg a b i (by omega) (by omega) (by omega)).fit hM hM44, ?_⟩
            dsimp only
            rw [get_last]
            dsimp only
            rw [ixN_n (by rw [tab_len]; exact hx)]
            dsimp only
            rw [set_last, tab_set _ hx, ← FF_i]
            exact hK3 _ _ ⟨rfl, _, _, _, rfl⟩
          · obtain ⟨rfl, r8, r9, r10, rfl⟩ := hI
            rw [enD_length, List.length_map, mg_length, ← FF_b]
            exact hK2 _ _ ⟨rfl, _, _, _, _, _, rfl⟩
        · obtain ⟨rfl, r6, r7, r8, r9, r10, rfl⟩ := hI
          rw [enD_length, List.length_map, chs_length, ← FF_a]
          exact hK _ _ ⟨rfl, _, _, _, _, _, _, _, rfl⟩
      · obtain ⟨rfl, r4, r5, r6, r7, r8, r9, r10, rfl⟩ := hI
        rw [enD_length, List.length_map, chs_length, FF_end hcn]
        subst e
        walk_at "dl"
        rw [get_last]
        dsimp only
        exact fin_take (nlL_fr _ _) (List.take_left' rfl) hΦ
    · rw [show ((8 : Nat) : Int) = 8 from rfl, hj] at z
      cases z
  · rw [show ((8 : Nat) : Int) = 8 from rfl, hi] at z
    cases z
end DL
set_option maxHeartbeats 4000000
/-! SR5A: law k05: falling plans drawn and looked at. -/
namespace DL
open PySem PySem.Spec PyProof.Rows L2
local macro_rules | `(tactic| walk_at "dl") => `(tactic| simp only [wSeq, wAsg, wRet, wVar, wC, wOp, wUn, wTest, wChain, wTru, wAnd, wOr, wNot, wAndV, wOrV, wNotV, wIf, wNil, wCons, wTup, wLst, wLstM, wCall0, wCall, wRaise, wB, wSl, wPart, wNoPart, wNext, wDrop, wIfS, wPar, wAsgG, wSetI, wApp, dgName, dgTup, dgCons, dgNil, gt, List.set, dAdd, dSub, dMul, dFdiv, dMod, dPow, dNeg, dCmpI, dEq, dNe, dIsN, dNotN, isN, dLen, dIsi, tyD, dAbs, dMax, dMin, dInt, dBool, dTuple, dList, dIx, dSl, atI_0, atI_1, atI_2, atI_3, eqd_int, okd_int,
  List.getElem?_cons_zero, List.getElem?_cons_succ, List.length_cons, List.length_nil, startD, List.map_cons, List.map_nil, List.cons_append, List.nil_append, List.append_nil, List.replicate, List.replicate_zero, List.replicate_succ, Nat.sub_self, if_true, if_false, Bool.false_eq_true, ite_true, ite_false, reduceIte, true_and, and_true, decide_true, decide_false, Bool.not_true, Bool.not_false, Nat.reduceSub, Nat.reduceAdd])
local macro_rules | `(tactic| walk_at "ty") => `(tactic| simp only [isT_0, isT_1, isT_2, isT_3, isT_4, isT_5, isT_6, isT_7, isT_8, isT_9, isT_10, isT_11, isT_12, isT_13, isT_14, isT_15, isT_16, isT_17, isT_18, isT_19, isT_20, isT_21, isT_22, isT_23, isT_24, isT_25, isT_26, isT_27, isT_28, isT_29, memT_0, memT_1, memT_2, memT_3, memT_4, true_and, Bool.not_true, Bool.not_false])
def sp_law_falls : DSp := fun ds mu Φ _ => ∃ p : Pl, ds = [plD p] ∧ PlOk p ∧ Φ (.bl (dropsB (stepsR p 8))) mu
def w_law_falls : DWS := (wSeq (wAsg 1 (wLc (wR1 (wCons (wC (.int 8)) wNil)) (dgName 2) wYes (wOp dIx (wCall0 sp_law_step (wCons (wVar 0) (wCons (wVar 2) wNil))) (wC (.int 0))) [2]))
    (wSeq (wFor (wZp (wCons (wVar 1) (wCons (wSl dSl (wVar 1) (wPart (wC (.int 1))) wNoPart) wNil))) (dgTup 2 (dgCons (dgName 3) (dgCons (dgName 4) dgNil))) (wIfS (wTest (wOp (dCmpI fun i j => decide (j < i)) (wOp dMul (wOp dIx (wVar 4) (wC (.int 0))) (wOp dIx (wVar 3) (wC (.int 1)))) (wOp dMul (wOp dIx (wVar 3) (wC (.int 0))) (wOp dIx (wVar 4) (wC (.int 1)))))) (wRet (wC (.bl false))) wNext))
    (wRet (wC (.bl true)))))
theorem rd_law_falls : ∀ ds mu Φ, sp_law_falls ds mu Φ X0 → w_law_falls (startD 5 ds) mu ⟨fun _ mu' => fin mu Φ .non mu', fin mu Φ, fun _ _ => False, fun _ _ => False⟩ X0 := by
  rintro _ mu Φ ⟨p, rfl, hp, h⟩
  unfold w_law_falls
  refine seq_cut fun R e => ?_
  unfold wLc wR1
  walk_at "dl"
  rw [show Int.toNat 8 = 8 from rfl, rgD0]
  refine ⟨by decide, by decide, by rw [List.length_map, List.length_range]; decide, ?_⟩
  refine lc_map (f := fun i : Nat => D.int (i : Int)) (g := fun i : Nat => fr (ch p i)) (fun i hi Ψ hΨ => ?_) ?_
  · have hi := List.mem_range.mp hi
    simp only [wipeD]
    walk_at "dl"
    refine ⟨p, i, rfl, hp, by omega, ?_⟩
    unfold stD
    walk_at "dl"
    exact hΨ
  · rw [show (List.range 8).map (fun i : Nat => fr (ch p i)) = (stepsR p 8).map fr by unfold stepsR; rw [List.map_map]; rfl]
    have hm : ∀ q ∈ stepsR p 8, Fit 4400 q := fun q hq => by
      obtain ⟨i, hi, rfl⟩ := List.mem_map.mp hq
      have := List.mem_range.mp hi
      exact (fit_chN hp (by omega)).mono (by decide)
    unfold dropsB at h
    generalize stepsR p 8 = xs at h hm
    try walk_at "dl"
    subst e
    refine seq_cut fun R e => ?_
    unfold wFor wZp
    walk_at "dl"
    rw [cut_1, zpD_fr]
    refine for_inv (fun i ρ S => S = mu ∧ (((xs.zip (xs.drop 1)).take i).map fun x : Rat × Rat => decide (x.1 < x.2)).any id = false ∧ ∃ r2 r3 r4, ρ = [some (plD p), some (.lst (xs.map fr)), r2, r3, r4]) ⟨rfl, rfl, none, none, none, rfl⟩ (fun i d ρ S Kp hd hI hK => ?_) fun ρ S hI => ?_
    · obtain ⟨rfl, hb, r2, r3, r4, rfl⟩ := hI
      rw [List.getElem?_map] at hd
      obtain ⟨x, hx, rfl⟩ := Option.map_eq_some_iff.mp hd
      have h1 := List.of_mem_zip (List.mem_of_getElem? hx)
      obtain ⟨m1, m2, m3, m4⟩ := mulZ (hm _ h1.1) (hm _ (List.mem_of_mem_drop h1.2))
      unfold fr
      walk_at "dl"
      refine ⟨m2, m1, ?_⟩
      by_cases hc : x.1 < x.2
      · rw [if_pos (show decide (x.1.num * (x.2.den : Int) < x.2.num * (x.1.den : Int)) = true from decide_eq_true ((Rat.lt_iff _ _).mp hc))]
        have ha : ((xs.zip (xs.drop 1)).map fun x : Rat × Rat => decide (x.1 < x.2)).any id = true := List.any_eq_true.mpr ⟨true, List.mem_map.mpr ⟨x, List.mem_of_getElem? hx, decide_eq_true hc⟩, rfl⟩
        rw [ha] at h
        exact .inl h
      · rw [if_neg (show ¬ decide (x.1.num * (x.2.den : Int) < x.2.num * (x.1.den : Int)) = true from fun z => hc ((Rat.lt_iff _ _).mpr (of_decide_eq_true z)))]
        refine hK _ _ ⟨rfl, ?_, _, _, _, rfl⟩
        rw [List.take_add_one, hx, List.map_append, List.any_append, hb]
        simp [hc]
    · obtain ⟨rfl, hb, r2, r3, r4, rfl⟩ := hI
      rw [List.length_map, List.take_length] at hb
      rw [hb] at h
      subst e
      walk_at "dl"
      exact .inl h
theorem den_mul_le (p q : Rat) : (p * q).den ≤ p.den * q.den := by
  rw [Rat.mul_def', Rat.den_mkRat, if_neg (by have := Nat.mul_pos (den_pos' p) (den_pos' q); omega)]
  exact Nat.div_le_self _ _
def sp_law_falling : DSp := fun ds mu Φ _ => ∃ (k n : Nat), ds = [.loc k] ∧ n ≤ 90000 ∧ Dk k mu n ∧ ∀ p mu', PlOk p → fallB p = true → DkTo k (n + 20) mu mu' → Φ (plD p) mu'
def w_law_falling : DWS := (wSeq (wAsgG (dgTup 2 (dgCons (dgName 1) (dgCons (dgName 2) dgNil))) (wTup (wCons (wTup wNil) (wCons (wTup (wCons (wC (.int 1)) (wCons (wC (.int 1)) wNil))) wNil))))
    (wSeq (wFor (wR1 (wCons (wCall0 sp_law_pick (wCons (wVar 0) (wCons (wC (.int 4)) wNil))) wNil)) (dgName 3) (wSeq (wAsg 2 (wCall0 sp_law_times (wCons (wVar 2) (wCons (wCall0 sp_law_one (wCons (wVar 0) (wCons (wLst (wCons (wTup (wCons (wC (.int 1)) (wCons (wC (.int 1)) wNil))) (wCons (wTup (wCons (wC (.int 1)) (wCons (wC (.int 1)) wNil))) (wCons (wTup (wCons (wC (.int 1)) (wCons (wC (.int 2)) wNil))) (wCons (wTup (wCons (wC (.int 2)) (wCons (wC (.int 3)) wNil))) wNil))))) wNil))) wNil))))
    (wSeq (wAsg 4 (wIf (wTest (wOp (dCmpI fun i j => decide (j < i)) (wCall0 sp_law_pick (wCons (wVar 0) (wCons (wC (.int 3)) wNil))) (wC (.int 0)))) (wTup (wCons (wOp dIx (wVar 2) (wC (.int 1))) (wCons (wOp dIx (wVar 2) (wC (.int 0))) wNil))) (wTup (wCons (wCall0 sp_law_pick (wCons (wVar 0) (wCons (wC (.int 4)) wNil))) (wCons (wC (.int 1)) wNil)))))
    (wAsg 1 (wOp dAdd (wVar 1) (wTup (wCons (wTup (wCons (wVar 2) (wCons (wVar 4) wNil))) wNil)))))))
    (wSeq (wPar 2 5 (wCons (wCall0 sp_law_times (wCons (wVar 2) (wCons (wCall0 sp_law_one (wCons (wVar 0) (wCons (wLst (wCons (wTup (wCons (wC (.int 1)) (wCons (wC (.int 1)) wNil))) (wCons (wTup (wCons (wC (.int 1)) (wCons (wC (.int 2)) wNil))) (wCons (wTup (wCons (wC (.int 3)) (wCons (wC (.int 4)) wNil))) wNil)))) wNil))) wNil))) (wCons (wCall0 sp_law_share (wCons (wVar 0) (wCons (wC (.int 3)) wNil))) wNil)))
    (wRet (wTup (wCons (wVar 1) (wCons (wTup (wCons (wVar 2) (wCons (wVar 5) (wCons (wTup (wCons (wOp dIx (wVar 2) (wC (.int 1))) (wCons (wOp dIx (wVar 2) (wC (.int 0))) wNil))) (wCons (wTup (wCons (wOp dIx (wVar 5) (wC (.int 1))) (wCons (wOp dIx (wVar 5) (wC (.int 0))) wNil))) wNil))))) wNil)))))))
theorem fit_ch1 {q : Rat} (h : Ch q) (hd : q.den ≤ 1000) : Fit 4400 q := (fit_bd (bd_ch h hd)).mono (by decide)
/-- the head drawn so far -/
def HdOk (hd : List (Rat × Rat)) (q : Rat) : Prop := (∀ x ∈ hd, Ch x.1 ∧ Bd x.1 ∧ Bd x.2 ∧ q ≤ x.1) ∧ hd.Pairwise fun x y => y.1 ≤ x.1
theorem HdOk.nil {q : Rat} : HdOk [] q := ⟨fun x hx => (by cases hx), List.Pairwise.nil⟩
theorem HdOk.snoc {hd : List (Rat × Rat)} {q q' g : Rat} (h : HdOk hd q) (hq : q' ≤ q) (c : Ch q') (b : Bd q') (hg : Bd g) : HdOk (hd ++ [(q', g)]) q' := by
  obtain ⟨h1, h2⟩ := h
  refine ⟨fun x hx => ?_, ?_⟩
  · rcases List.mem_append.mp hx with e | e
    · obtain ⟨a1, a2, a3, a4⟩ := h1 x e
      exact ⟨a1, a2, a3, Rat.le_trans hq a4⟩
    · rw [List.mem_singleton] at e
      subst e
      exact ⟨c, b, hg, Rat.le_refl⟩
  · rw [List.pairwise_append]
    refine ⟨h2, List.pairwise_singleton _ _, fun x hx y hy => ?_⟩
    rw [List.mem_singleton] at hy
    subst hy
    exact Rat.le_trans hq (h1 x hx).2.2.2
theorem HdOk.falls {hd : List (Rat × Rat)} {q c l g m : Rat} (h : HdOk hd q) (hc : c ≤ q) : fallB ⟨hd, c, l, g, m⟩ = true := by
  refine fallB_of fun i hi => ?_
  have hi : i < hd.length := hi
  unfold ch
  dsimp only
  rw [List.getElem?_eq_getElem hi]
  dsimp only
  by_cases h2 : i + 1 < hd.length
  · rw [List.getElem?_eq_getElem h2]
    exact List.pairwise_iff_getElem.mp h.2 i (i + 1) hi h2 (by omega)
  · rw [List.getElem?_eq_none (by omega)]
    dsimp only
    rw [show i + 1 - hd.length = 0 by omega, Rat.pow_zero, Rat.mul_one]
    exact Rat.le_trans hc (h.1 _ (List.getElem_mem hi)).2.2.2
theorem ch_step {q f : Rat} {b c : Nat} (h : Ch q) (hd : q.den ≤ b) (hf : Ch f) (fd : f.den ≤ c) : Ch (q * f) ∧ (q * f).den ≤ b * c ∧ q * f ≤ q := by
  refine ⟨ch_mul h hf, Nat.le_trans (den_mul_le q f) (Nat.mul_le_mul hd fd), ?_⟩
  have := Rat.mul_le_mul_of_nonneg_left hf.2 (Rat.le_of_lt h.1)
  rw [Rat.mul_one] at this
  exact this
theorem one_of4 {d : D} (h : d ∈ [D.tup [.int 1, .int 1], D.tup [.int 1, .int 1], D.tup [.int 1, .int 2], D.tup [.int 2, .int 3]]) : ∃ f : Rat, d = fr f ∧ Ch f ∧ f.den ≤ 3 := by
  simp only [List.mem_cons, List.not_mem_nil, or_false] at h
  rcases h with rfl | rfl | rfl | rfl
  · exact ⟨1, rfl, ⟨by decide, by decide⟩, by decide⟩
  · exact ⟨1, rfl, ⟨by decide, by decide⟩, by decide⟩
  · exact ⟨⟨1, 2, by decide, by decide⟩, rfl, ⟨by decide +kernel, by decide +kernel⟩, by decide +kernel⟩
  · exact ⟨⟨2, 3, by decide, by decide⟩, rfl, ⟨by decide +kernel, by decide +kernel⟩, by decide +kernel⟩
theorem one_of3 {d : D} (h : d ∈ [D.tup [.int 1, .int 1], D.tup [.int 1, .int 2], D.tup [.int 3, .int 4]]) : ∃ f : Rat, d = fr f ∧ Ch f ∧ f.den ≤ 4 := by
  simp only [List.mem_cons, List.not_mem_nil, or_false] at h
  rcases h with rfl | rfl | rfl
  · exact ⟨1, rfl, ⟨by decide, by decide⟩, by decide⟩
  · exact ⟨⟨1, 2, by decide, by decide⟩, rfl, ⟨by decide +kernel, by decide +kernel⟩, by decide +kernel⟩
  · exact ⟨⟨3, 4, by decide, by decide⟩, rfl, ⟨by decide +kernel, by decide +kernel⟩, by decide +kernel⟩
theorem rd_law_falling : ∀ ds mu Φ, sp_law_falling ds mu Φ X0 → w_law_falling (startD 6 ds) mu ⟨fun _ mu' => fin mu Φ .non mu', fin mu Φ, fun _ _ => False, fun _ _ => False⟩ X0 := by
  rintro _ mu Φ ⟨k, n, rfl, hn, hk, h⟩
  unfold w_law_falling
  refine seq_cut fun R e => ?_
  walk_at "dl"
  subst e
  refine seq_cut fun R e => ?_
  unfold wFor wR1
  walk_at "dl"
  refine ⟨k, 4, n, rfl, by decide, by decide, by omega, hk, fun r mu1 r0 r1 t1 => ?_⟩
  walk_at "dl"
  refine ⟨by omega, by omega, ?_⟩
  obtain ⟨c, rfl⟩ : ∃ c : Nat, r = (c : Int) := ⟨r.toNat, (Int.toNat_of_nonneg r0).symm⟩
  rw [Int.toNat_natCast, rgD0, ← fr_one]
  refine for_inv (fun i ρ S => DkTo k (n + 1 + 3 * i) mu S ∧ i ≤ 3 ∧ ∃ hd q r3 r4, ρ = [some (.loc k), some (.tup (hd.map prD)), some (fr q), r3, r4, none] ∧ hd.length = i ∧ Ch q ∧ q.den ≤ 3 ^ i ∧ HdOk hd q) ⟨t1, by decide, [], 1, none, none, rfl, rfl, ⟨by decide, by decide⟩, by decide, HdOk.nil⟩ (fun i d ρ S Kp hd hI hK => ?_) fun ρ S hI => ?_
  · obtain ⟨t, hi3, hd', q, r3, r4, rfl, hlen, cq, dq, ho⟩ := hI
    obtain ⟨hi, rfl⟩ := range_at hd
    unfold dgName
    simp only [List.set]
    refine seq_cut fun R e => ?_
    walk_at "dl"
    refine ⟨k, _, n + 1 + 3 * i, rfl, by decide, by decide, by omega, t.dk hk, fun x mu2 hx t2 => ?_⟩
    obtain ⟨f, rfl, cf, df⟩ := one_of4 hx
    obtain ⟨cq', dq', lq'⟩ := ch_step cq dq cf df
    have p3 : 3 ^ i * 3 ≤ 27 := by
      have := Nat.pow_le_pow_right (n := 3) (by decide) (show i + 1 ≤ 3 by omega)
      rw [Nat.pow_succ] at this
      omega
    refine ⟨q, f, rfl, fit_ch1 cq (by omega), fit_ch1 cf (by omega), ?_⟩
    dsimp only
    generalize hq' : q * f = q' at cq' dq' lq' ⊢
    subst e
    refine seq_cut fun R e => ?_
    walk_at "dl"
    refine ⟨k, 3, n + 2 + 3 * i, rfl, by decide, by decide, by omega, ((t.trans t2).mono (by omega)).dk hk, fun s mu3 s0 s1 t3 => ?_⟩
    try walk_at "dl"
    have bq' : Bd q' := bd_ch cq' (by omega)
    have fin_ : ∀ (bk : EnvD → MS → Prop) (g : Rat) (S4 : MS) (m : Nat), Bd g → m ≤ n + 4 + 3 * i → DkTo k m mu S4 → R [some (.loc k), some (.tup (hd'.map prD)), some (fr q'), some (.int (i : Int)), some (fr g), none] S4 ⟨Kp, fin mu Φ, bk, Kp⟩ X0 := fun bk g S4 m hg hm t4 => by
      subst e
      walk_at "dl"
      refine ⟨by rw [List.length_map]; omega, ?_⟩
      have e1 : hd'.map prD ++ [D.tup [fr q', fr g]] = (hd' ++ [(q', g)]).map prD := by rw [List.map_append]; rfl
      rw [e1]
      refine hK _ _ ⟨t4.mono (by omega), by omega, _, _, _, _, rfl, by rw [List.length_append, List.length_singleton, hlen], cq', by rw [Nat.pow_succ]; exact dq', ho.snoc lq' cq' bq' hg⟩
    by_cases hs : 0 < s
    · rw [if_pos (decide_eq_true hs)]
      have f := fun bk => fin_ bk q'⁻¹ mu3 (n + 3 + 3 * i) (bd_inv cq' (by omega)) (by omega) ((t.trans (t2.trans t3)).mono (by omega))
      rw [fr_inv cq'.1] at f
      unfold fr
      unfold fr at f
      walk_at "dl"
      exact f _
    · rw [if_neg (by rw [decide_eq_false hs]; exact Bool.false_ne_true)]
      refine ⟨k, 4, n + 3 + 3 * i, rfl, by decide, by decide, by omega, ((t.trans (t2.trans t3)).mono (by omega)).dk hk, fun u mu4 u0 u1 t4 => ?_⟩
      try walk_at "dl"
      rw [show D.tup [.int u, .int 1] = fr (u : Rat) from rfl]
      exact fin_ _ (u : Rat) mu4 (n + 4 + 3 * i) ⟨by show u.natAbs ≤ 1000; omega, by show 1 ≤ 1000; decide⟩ (by omega) ((t.trans (t2.trans (t3.trans t4))).mono (by omega))
  · obtain ⟨t, hi3, hd, q, r3, r4, rfl, hlen, cq, dq, ho⟩ := hI
    rw [List.length_map, List.length_range] at t hi3 hlen dq
    have p3 : 3 ^ c ≤ 27 := Nat.le_trans (Nat.pow_le_pow_right (by decide) hi3) (by decide)
    subst e
    dsimp only
    refine seq_cut fun R e => ?_
    walk_at "dl"
    refine ⟨k, _, n + 1 + 3 * c, rfl, by decide, by decide, by omega, t.dk hk, fun x mu2 hx t2 => ?_⟩
    obtain ⟨f, rfl, cf, df⟩ := one_of3 hx
    obtain ⟨cq', dq', lq'⟩ := ch_step cq dq cf df
    refine ⟨q, f, rfl, fit_ch1 cq (by omega), fit_ch1 cf (by omega), ?_⟩
    dsimp only
    generalize hq' : q * f = q' at cq' dq' lq' ⊢
    try walk_at "dl"
    refine ⟨k, 3, n + 2 + 3 * c, rfl, by decide, by decide, by omega, ((t.trans t2).mono (by omega)).dk hk, fun l mu3 l1 l2 t3 => ?_⟩
    try walk_at "dl"
    subst e
    have f := h ⟨hd, q', l, q'⁻¹, l⁻¹⟩ mu3 ⟨by show hd.length ≤ 4; omega, fun x hx => ⟨(ho.1 x hx).1, (ho.1 x hx).2.1, (ho.1 x hx).2.2.1⟩, ⟨cq', bd_ch cq' (show q'.den ≤ 1000 by omega)⟩, ⟨l1, bd_ch l1 (show l.den ≤ 1000 by omega)⟩, bd_inv cq' (by omega), Rat.le_of_lt (Rat.inv_pos.mpr l1.1), bd_inv l1 (by omega)⟩ (ho.falls lq') ((t.trans (t2.trans t3)).mono (by omega))
    unfold plD at f
    dsimp only at f
    rw [fr_inv cq'.1, fr_inv l1.1] at f
    unfold fr
    unfold fr at f
    walk_at "dl"
    exact .inl f
end DL
set_option maxHeartbeats 4000000
/-! SR5B: law k05: the law's own way of putting together, with a dict. -/
namespace DL
open PySem PySem.Spec PyProof.Rows L2
local macro_rules | `(tactic| walk_at "dl") => `(tactic| simp only [wSeq, wAsg, wRet, wVar, wC, wOp, wUn, wTest, wChain, wTru, wAnd, wOr, wNot, wAndV, wOrV, wNotV, wIf, wNil, wCons, wTup, wLst, wLstM, wCall0, wCall, wRaise, wB, wSl, wPart, wNoPart, wNext, wDrop, wIfS, wPar, wAsgG, wSetI, wApp, dgName, dgTup, dgCons, dgNil, gt, List.set, dAdd, dSub, dMul, dFdiv, dMod, dPow, dNeg, dCmpI, dEq, dNe, dIsN, dNotN, isN, dLen, dIsi, tyD, dAbs, dMax, dMin, dInt, dBool, dTuple, dList, dIx, dSl, atI_0, atI_1, atI_2, atI_3, eqd_int, okd_int,
  List.getElem?_cons_zero, List.getElem?_cons_succ, List.length_cons, List.length_nil, startD, List.map_cons, List.map_nil, List.cons_append, List.nil_append, List.append_nil, List.replicate, List.replicate_zero, List.replicate_succ, Nat.sub_self, if_true, if_false, Bool.false_eq_true, ite_true, ite_false, reduceIte, true_and, and_true, decide_true, decide_false, Bool.not_true, Bool.not_false, Nat.reduceSub, Nat.reduceAdd])
local macro_rules | `(tactic| walk_at "ty") => `(tactic| simp only [isT_0, isT_1, isT_2, isT_3, isT_4, isT_5, isT_6, isT_7, isT_8, isT_9, isT_10, isT_11, isT_12, isT_13, isT_14, isT_15, isT_16, isT_17, isT_18, isT_19, isT_20, isT_21, isT_22, isT_23, isT_24, isT_25, isT_26, isT_27, isT_28, isT_29, memT_0, memT_1, memT_2, memT_3, memT_4, true_and, Bool.not_true, Bool.not_false])
theorem forL_inv {k : Nat} {od : Obj} {vs : List (Key × V)} {kvs : List (Key × D)} {dg : DG} {b : DWS} {Δ : DEnds} {all : List D} (I : Nat → EnvD → MS → Prop) (hk : ∀ i ρ mu, I i ρ mu → mu[k]? = some (.lk od vs kvs))
    (step : ∀ (i : Nat) (d : D) (ρ : EnvD) (mu : MS) (Kp bk : EnvD → MS → Prop) (rt : D → MS → Prop), all[i]? = some d → I i ρ mu → (∀ ρ' mu', I (i + 1) ρ' mu' → Kp ρ' mu') → dg d ρ fun ρ1 => b ρ1 mu ⟨Kp, rt, bk, Kp⟩ X0)
    (fi : ∀ ρ mu, I all.length ρ mu → Δ.nx ρ (mu.set k (.dk kvs))) : ∀ (xs : List D) (i : Nat) (ρ : EnvD) (mu : MS), all.drop i = xs → i ≤ all.length → I i ρ mu → wForGoL k od vs kvs dg b xs ρ mu Δ
  | [], i, ρ, mu, e, hi, h => by
    have : i = all.length := by have := congrArg List.length e; rw [List.length_drop] at this; simp at this; omega
    subst this
    exact ⟨hk _ _ _ h, fi ρ mu h⟩
  | x :: xs, i, ρ, mu, e, hi, h => by
    have hx : all[i]? = some x := by rw [← Nat.add_zero i, ← List.getElem?_drop, e]; rfl
    have hl := (List.getElem?_eq_some_iff.mp hx).1
    exact ⟨hk _ _ _ h, step i x ρ mu _ _ _ hx h fun ρ' mu' h' => forL_inv I hk step fi xs (i + 1) ρ' mu' (by rw [← List.drop_drop, e]; rfl) hl h'⟩
/-! ### a dict of levels that go down -/
def kI (n : Nat) : Key := .inl (n : Int)
theorem kI_eq {a b : Nat} : kI a = kI b ↔ a = b := by
  unfold kI
  constructor
  · intro h
    injection h with h
    omega
  · intro h
    rw [h]
def tabK (N top : Nat) (f : Nat → Rat) : List (Key × D) := (List.range N).map fun t => (kI (top - t), fr (f (top - t)))
theorem tabK_succ (N top : Nat) (f : Nat → Rat) : tabK (N + 1) top f = tabK N top f ++ [(kI (top - N), fr (f (top - N)))] := by
  unfold tabK
  rw [List.range_succ, List.map_append]
  rfl
theorem tabK_congr {N top : Nat} {f g : Nat → Rat} (hN : N ≤ top + 1) (h : ∀ l, top < l + N → l ≤ top → f l = g l) : tabK N top f = tabK N top g := by
  unfold tabK
  refine List.map_congr_left fun t ht => ?_
  have := List.mem_range.mp ht
  rw [h (top - t) (by omega) (by omega)]
theorem valD_tabK {top x : Nat} {f : Nat → Rat} : ∀ {N : Nat}, N ≤ top + 1 → valD (tabK N top f) (kI x) = if top < x + N ∧ x ≤ top then some (fr (f x)) else none
  | 0, _ => by
    rw [if_neg (by omega)]
    rfl
  | N + 1, hN => by
    have ih := valD_tabK (top := top) (x := x) (f := f) (N := N) (by omega)
    unfold valD at ih ⊢
    rw [tabK_succ, List.find?_append]
    by_cases h : top < x + N ∧ x ≤ top
    · rw [if_pos h] at ih
      rw [if_pos (show top < x + (N + 1) ∧ x ≤ top by omega)]
      obtain ⟨y, hy, e⟩ := Option.map_eq_some_iff.mp ih
      rw [hy]
      show some y.2 = _
      rw [e]
    · rw [if_neg h] at ih
      rw [Option.map_eq_none_iff.mp ih]
      by_cases h2 : x = top - N
      · subst h2
        rw [if_pos (show top < top - N + (N + 1) ∧ top - N ≤ top by omega)]
        have hn : decide ((kI (top - N), fr (f (top - N))).1 = kI (top - N)) = true := decide_eq_true rfl
        show Option.map (·.2) (List.find? (fun kv : Key × D => decide (kv.1 = kI (top - N))) [(kI (top - N), fr (f (top - N)))]) = _
        rw [List.find?_cons_of_pos (p := fun kv : Key × D => decide (kv.1 = kI (top - N))) hn]
        rfl
      · rw [if_neg (show ¬ (top < x + (N + 1) ∧ x ≤ top) by omega)]
        have hn : ¬ decide ((kI (top - N), fr (f (top - N))).1 = kI x) = true := fun z => h2 (kI_eq.mp (of_decide_eq_true z)).symm
        show Option.map (·.2) (List.find? (fun kv : Key × D => decide (kv.1 = kI x)) [(kI (top - N), fr (f (top - N)))]) = _
        rw [List.find?_cons_of_neg (p := fun kv : Key × D => decide (kv.1 = kI x)) hn]
        rfl
theorem putD_old {top x N : Nat} {f : Nat → Rat} (v : Rat) (hN : N ≤ top + 1) (h1 : top < x + N) (h2 : x ≤ top) : putD (tabK N top f) (kI x) (fr v) = tabK N top fun l => if l = x then v else f l := by
  unfold putD
  rw [if_pos]
  · unfold tabK
    rw [List.map_map]
    refine List.map_congr_left fun t ht => ?_
    show (if kI (top - t) = kI x then (kI (top - t), fr v) else (kI (top - t), fr (f (top - t)))) = (kI (top - t), fr (if top - t = x then v else f (top - t)))
    by_cases h : top - t = x
    · rw [if_pos (kI_eq.mpr h), if_pos h]
    · rw [if_neg (fun z => h (kI_eq.mp z)), if_neg h]
  · rw [List.any_eq_true]
    exact ⟨(kI (top - (top - x)), fr (f (top - (top - x)))), List.mem_map.mpr ⟨top - x, List.mem_range.mpr (by omega), rfl⟩, decide_eq_true (kI_eq.mpr (by omega))⟩
theorem putD_new {top N : Nat} {f : Nat → Rat} (v : Rat) (hN : N ≤ top) : putD (tabK N top f) (kI (top - N)) (fr v) = tabK (N + 1) top fun l => if l = top - N then v else f l := by
  unfold putD
  rw [if_neg, tabK_succ, if_pos rfl]
  · congr 1
    refine tabK_congr (by omega) fun l h1 h2 => ?_
    rw [if_neg (by omega)]
  · intro z
    obtain ⟨y, hy, e⟩ := List.any_eq_true.mp z
    obtain ⟨t, ht, rfl⟩ := List.mem_map.mp hy
    have := List.mem_range.mp ht
    have := kI_eq.mp (of_decide_eq_true e)
    omega
theorem two_0 {pre : MS} {x y : MO} : (pre ++ [x, y])[pre.length]? = some x := by
  rw [List.getElem?_append_right (Nat.le_refl _), Nat.sub_self]
  rfl
theorem two_1 {pre : MS} {x y : MO} : (pre ++ [x, y])[pre.length + 1]? = some y := by
  rw [List.getElem?_append_right (by omega), show pre.length + 1 - pre.length = 1 by omega]
  rfl
theorem two_s0 {pre : MS} {x y z : MO} : (pre ++ [x, y]).set pre.length z = pre ++ [z, y] := by
  rw [List.set_append_right _ _ (Nat.le_refl _), Nat.sub_self]
  rfl
theorem two_s1 {pre : MS} {x y z : MO} : (pre ++ [x, y]).set (pre.length + 1) z = pre ++ [x, z] := by
  rw [List.set_append_right _ _ (by omega), show pre.length + 1 - pre.length = 1 by omega]
  rfl
/-! ### sizes -/
theorem mgB_20 {p : Pl} (hp : PlOk p) {h N : Nat} (hh : h ≤ 10) (hN : N ≤ 10) : MgB (ch p) h N (bas p * anum p) := fun j hj i hi => isM_mul (bas_ok (by omega)) (inv_ok hp (by omega))
theorem mgB_le {p : Pl} (hp : PlOk p) : bas p * anum p ≤ 1000 ^ 50 := Nat.le_trans (Nat.mul_le_mul (bas_le hp) (anum_le hp)) (by decide +kernel)
theorem mgB_pos {p : Pl} (hp : PlOk p) : 0 < bas p * anum p := Nat.mul_pos (bas_pos p) (anum_pos hp)
theorem mgB_pow {p : Pl} (hp : PlOk p) {n : Nat} (hn : n ≤ 7) : (bas p * anum p) ^ n * 1000 < 2 ^ 4400 := by
  have h1 : (bas p * anum p) ^ n ≤ (1000 ^ 50) ^ n := Nat.pow_le_pow_left (mgB_le hp) n
  have h2 : (1000 ^ 50) ^ n ≤ (1000 ^ 50) ^ 7 := Nat.pow_le_pow_right (by decide) hn
  exact Nat.lt_of_le_of_lt (Nat.mul_le_mul_right _ (Nat.le_trans h1 h2)) (by decide +kernel)
theorem tn_gd {p : Pl} (hp : PlOk p) (hf : Falls (ch p)) {H j : Nat} (hH : H ≤ 10) (hj : j ≤ H) (l : Nat) : Gd ((bas p * anum p) ^ j) (tn (ch p) j (dlt H) l) := by
  have gz : Gd ((bas p * anum p) ^ j) 0 := ⟨Rat.le_refl, by decide, isM_zero⟩
  by_cases h : H ≤ l
  · rw [show l = H + (l - H) by omega, ← mg_get]
    by_cases h2 : l - H < j + 1
    · have hm : (mg (ch p) H j).getD (l - H) 0 ∈ mg (ch p) H j := by
        refine List.mem_of_getElem? (i := l - H) ?_
        rw [List.getD_eq_getElem?_getD, List.getElem?_eq_getElem (by rw [mg_length]; exact h2)]
        rfl
      exact ⟨mg_nonneg (ch_ok hp) hf _ hj _ hm, mg_le (ch_ok hp) hf hj hm, mg_isM (mgB_20 hp hH (by omega)) j (Nat.le_refl _) _ hm⟩
    · rw [List.getD_eq_getElem?_getD, List.getElem?_eq_none (by rw [mg_length]; omega)]
      exact gz
  · rw [tn_lo _ _ _ _ (by omega)]
    exact gz
theorem tn_hi {c : Wt} {H j l : Nat} (h : H + j < l) : tn c j (dlt H) l = 0 := by
  have := mg_get c H j (l - H)
  rw [show H + (l - H) = l by omega] at this
  rw [← this, List.getD_eq_getElem?_getD, List.getElem?_eq_none (by rw [mg_length]; omega)]
  rfl
theorem mg_tab (c : Wt) (H L : Nat) : (List.range (L + 1)).map (fun i => fr (tn c L (dlt H) (H + i))) = (mg c H L).map fr := by
  refine List.ext_getElem? fun i => ?_
  rw [List.getElem?_map, List.getElem?_map]
  by_cases h : i < L + 1
  · rw [List.getElem?_range h, List.getElem?_eq_getElem (by rw [mg_length]; exact h)]
    show some (fr (tn c L (dlt H) (H + i))) = some (fr _)
    rw [← mg_get, List.getD_eq_getElem?_getD, List.getElem?_eq_getElem (by rw [mg_length]; exact h)]
    rfl
  · rw [List.getElem?_eq_none (by rw [List.length_range]; omega), List.getElem?_eq_none (by rw [mg_length]; omega)]
    rfl
theorem one_sub_gd {M : Nat} {q : Rat} (h : Gd M q) : Gd M (1 - q) := ⟨by have := h.2.1; grind, by have := h.1; grind, isM_sub isM_one h.2.2⟩
theorem sumOk2 {M : Nat} (hM : 0 < M) (hs : M * 1000 < 2 ^ 4400) {x y : Rat} (hx : Gd M x) (hy : Gd M y) : SumOk [x, y] := by
  refine ⟨M, M, hM, fun q hq => ?_, by omega, by show 2 * M < 2 ^ 4400; omega⟩
  simp only [List.mem_cons, List.not_mem_nil, or_false] at hq
  rcases hq with rfl | rfl
  · exact gd_sz hM hx
  · exact gd_sz hM hy
def sp_law_merged : DSp := fun ds mu Φ _ => ∃ (p : Pl) (a b : Nat), ds = [plD p, .int (a : Int), .int (b : Int)] ∧ PlOk p ∧ a ≤ 6 ∧ b ≤ 6 ∧ Falls (ch p) ∧ Φ (mgD p a b) mu
def w_law_merged : DWS := (wSeq (wPar 3 4 (wCons (wB dMax (wCons (wVar 1) (wCons (wVar 2) wNil))) (wCons (wB dMin (wCons (wVar 1) (wCons (wVar 2) wNil))) wNil)))
    (wSeq (wAsgG (dgTup 2 (dgCons (dgName 5) (dgCons (dgName 6) dgNil))) (wTup (wCons (wLc (wR1 (wCons (wOp dAdd (wOp dAdd (wVar 3) (wVar 4)) (wC (.int 1))) wNil)) (dgName 7) wYes (wOp dIx (wCall0 sp_law_step (wCons (wVar 0) (wCons (wVar 7) wNil))) (wC (.int 0))) [7]) (wCons (wDisp (wPCons (wVar 3) (wTup (wCons (wC (.int 1)) (wCons (wC (.int 1)) wNil))) wPNil)) wNil))))
    (wSeq (wFor (wR1 (wCons (wVar 4) wNil)) (dgName 8) (wSeq (wAsg 9 wDNewK)
    (wSeq (wForD 6 (dgName 7) (wSeq (wAsg 10 (wCall0 sp_law_times (wCons (wOp dIx (wVar 5) (wVar 7)) (wCons (wTup (wCons (wOp dIx (wOp dIx (wVar 5) (wVar 8)) (wC (.int 1))) (wCons (wOp dIx (wOp dIx (wVar 5) (wVar 8)) (wC (.int 0))) wNil))) wNil))))
    (wFor (wItT (wTup (wCons (wTup (wCons (wOp dAdd (wVar 7) (wC (.int 1))) (wCons (wVar 10) wNil))) (wCons (wTup (wCons (wVar 7) (wCons (wCall0 sp_law_stay (wCons (wVar 10) wNil)) wNil))) wNil)))) (dgTup 2 (dgCons (dgName 11) (dgCons (dgName 12) dgNil))) (wDPut (wCall0 sp_law_sum (wCons (wLst (wCons (wDGet2 (wVar 9) (wVar 11) (wTup (wCons (wC (.int 0)) (wCons (wC (.int 1)) wNil)))) (wCons (wCall0 sp_law_times (wCons (wDGet (wVar 6) (wVar 7)) (wCons (wVar 12) wNil))) wNil))) wNil)) (wVar 9) (wVar 11)))))
    (wAsg 6 (wVar 9)))))
    (wRet (wB dTuple (wCons (wLc (wR2 (wCons (wVar 3) (wCons (wOp dAdd (wOp dAdd (wVar 3) (wVar 4)) (wC (.int 1))) wNil))) (dgName 7) wYes (wDGet2 (wVar 6) (wVar 7) (wTup (wCons (wC (.int 0)) (wCons (wC (.int 1)) wNil)))) [7]) wNil))))))
/-- what is left of a level when its step is made -/
def lft (c : Wt) (j : Nat) (f : Wt) (l : Nat) : Rat := f l * (1 - c l * (c j)⁻¹)
theorem tst_lft (c : Wt) (j : Nat) (f : Wt) (l : Nat) : tst c j f (l + 1) = lft c j f (l + 1) + f l * (c l * (c j)⁻¹) := by
  show f (l + 1) + (c j)⁻¹ * ((if l + 1 = 0 then 0 else f (l + 1 - 1) * c (l + 1 - 1)) - f (l + 1) * c (l + 1)) = f (l + 1) * (1 - c (l + 1) * (c j)⁻¹) + f l * (c l * (c j)⁻¹)
  rw [if_neg (by omega), Nat.add_sub_cancel]
  grind
theorem tst_H {c : Wt} {j H : Nat} : tst c j (tn c j (dlt H)) H = lft c j (tn c j (dlt H)) H := by
  show tn c j (dlt H) H + (c j)⁻¹ * ((if H = 0 then 0 else tn c j (dlt H) (H - 1) * c (H - 1)) - tn c j (dlt H) H * c H) = tn c j (dlt H) H * (1 - c H * (c j)⁻¹)
  by_cases h : H = 0
  · rw [if_pos h]
    grind
  · rw [if_neg h, tn_lo c H j (H - 1) (by omega)]
    grind
theorem lookM_dk {kvs : List (Key × D)} {x : Nat} : lookM (.dk kvs) (.int (x : Int)) = some (valD kvs (kI x)) := rfl
theorem lookM_lk {od : Obj} {vs : List (Key × V)} {kvs : List (Key × D)} {x : Nat} : lookM (.lk od vs kvs) (.int (x : Int)) = some (valD kvs (kI x)) := rfl
theorem putM_dk {kvs : List (Key × D)} {x : Nat} {d : D} (h : kvs.length < 100000) : putM (.dk kvs) (.int (x : Int)) d = some (.dk (putD kvs (kI x) d)) := by
  unfold putM
  dsimp only
  rw [if_pos h]
  rfl
theorem tabK_len (N top : Nat) (f : Nat → Rat) : (tabK N top f).length = N := by
  unfold tabK
  rw [List.length_map, List.length_range]
theorem tabK_keys (N top : Nat) (f : Nat → Rat) : (tabK N top f).map (fun kv => dKey kv.1) = (List.range N).map fun t => D.int ((top - t : Nat) : Int) := by
  unfold tabK
  rw [List.map_map]
  rfl
def nI (i : Nat) : Nat := if i = 0 then 0 else i + 1
theorem top_get {top i : Nat} {f : Nat → Rat} {v : Rat} (hi : i ≤ top) (h0 : i = 0 → v = 0) (h1 : i ≠ 0 → f (top - i) = v) : (valD (tabK (nI i) top f) (kI (top - i))).getD (fr 0) = fr v := by
  unfold nI
  by_cases h : i = 0
  · rw [if_pos h, valD_tabK (by omega), if_neg (by omega), h0 h]
    rfl
  · rw [if_neg h, valD_tabK (by omega), if_pos (by omega), h1 h]
    rfl
theorem top_put {top i : Nat} {f : Nat → Rat} (v : Rat) (hi : i ≤ top) : putD (tabK (nI i) top f) (kI (top - i)) (fr v) = tabK (i + 1) top fun l => if l = top - i then v else f l := by
  unfold nI
  by_cases h : i = 0
  · subst h
    rw [if_pos rfl]
    exact putD_new v (Nat.zero_le _)
  · rw [if_neg h]
    exact putD_old v (by omega) (by omega) (by omega)
theorem low_get {top i : Nat} {f : Nat → Rat} (hi : i + 1 ≤ top) : (valD (tabK (i + 1) top f) (kI (top - (i + 1)))).getD (fr 0) = fr 0 := by
  rw [valD_tabK (by omega), if_neg (by omega)]
  rfl
theorem st_at {p : Pl} {N i : Nat} (h : i < N) : atI ((stepsR p N).map fr) (i : Int) = some (fr (ch p i)) := by
  unfold stepsR
  rw [atI_n, List.getElem?_map, List.getElem?_map, List.getElem?_range h]
  rfl
theorem u_gd {p : Pl} (hp : PlOk p) (hf : Falls (ch p)) {x j : Nat} (hx : j ≤ x) (h20 : x ≤ 20) : Gd (bas p * anum p) (ch p x * (ch p j)⁻¹) := by
  have := mgc_ch (ch_ok hp) hf hx 0
  exact ⟨Rat.le_of_lt this.1, this.2, isM_mul (bas_ok h20) (inv_ok hp (by omega))⟩
theorem dict0 (H : Nat) (c : Wt) : mergeD [] [((Sum.inl (H : Int) : Key), D.tup [.int 1, .int 1])] = tabK 1 H (tn c 0 (dlt H)) := by
  show [((Sum.inl (H : Int) : Key), fr 1)] = [(kI (H - 0), fr (if H - 0 = H then 1 else 0))]
  rw [Nat.sub_zero, if_pos rfl]
  rfl
theorem pre_two {pre : MS} {x y : MO} : (pre ++ [x]) ++ [y] = pre ++ [x, y] := by rw [List.append_assoc]; rfl
def w_mput : DWS := (wDPut
  (wCall0 sp_law_sum (wCons (wLst (wCons (wDGet2 (wVar 9) (wVar 11) (wTup (wCons (wC (D.int 0)) (wCons (wC (D.int 1)) wNil)))) (wCons (wCall0 sp_law_times (wCons (wDGet (wVar 6) (wVar 7)) (wCons (wVar 12) wNil))) wNil))) wNil))
  (wVar 9) (wVar 11))
def w_mfor : DWS := wFor (wItT (wTup (wCons (wTup (wCons (wOp dAdd (wVar 7) (wC (D.int 1))) (wCons (wVar 10) wNil))) (wCons (wTup (wCons (wVar 7) (wCons (wCall0 sp_law_stay (wCons (wVar 10) wNil)) wNil))) wNil))))
  (dgTup 2 (dgCons (dgName 11) (dgCons (dgName 12) dgNil))) w_mput
theorem mput {pre : MS} {od : Obj} {vs : List (Key × V)} {kn kl : List (Key × D)} {x y j : Nat} {Δ : DEnds} (Fx o s : Rat) (r0 r1 r2 r3 r4 r5 r10 : Option D) (hl : kl.length < 100000) (gn : valD kn (kI x) = some (fr Fx)) (gl : (valD kl (kI y)).getD (fr 0) = fr o)
    (so : SumOk [o, Fx * s]) (f1 : Fit 4400 Fx) (f2 : Fit 4400 s)
    (h : Δ.nx [r0, r1, r2, r3, r4, r5, some (.loc pre.length), some (.int (x : Int)), some (.int (j : Int)), some (.loc (pre.length + 1)), r10, some (.int (y : Int)), some (fr s)] (pre ++ [.lk od vs kn, .dk (putD kl (kI y) (fr (o + Fx * s)))])) :
    w_mput [r0, r1, r2, r3, r4, r5, some (.loc pre.length), some (.int (x : Int)), some (.int (j : Int)), some (.loc (pre.length + 1)), r10, some (.int (y : Int)), some (fr s)] (pre ++ [.lk od vs kn, .dk kl]) Δ X0 := by
  unfold w_mput wDPut
  walk_at "dl"
  have a9 : ∀ K : D → MS → Prop, K (fr o) (pre ++ [.lk od vs kn, .dk kl]) → wDGet2 (wVar 9) (wVar 11) (wTup (wCons (wC (D.int 0)) (wCons (wC (D.int 1)) wNil))) [r0, r1, r2, r3, r4, r5, some (.loc pre.length), some (.int (x : Int)), some (.int (j : Int)), some (.loc (pre.length + 1)), r10, some (.int (y : Int)), some (fr s)] (pre ++ [.lk od vs kn, .dk kl]) K X0 := fun K hK => by
    show (match (pre ++ [MO.lk od vs kn, MO.dk kl])[pre.length + 1]? with
      | some m0 => isDk m0 = true ∧ (match (pre ++ [MO.lk od vs kn, MO.dk kl])[pre.length + 1]? with | some m => (match lookM m (.int (y : Int)) with | some r => K (r.getD (D.tup [.int 0, .int 1])) (pre ++ [.lk od vs kn, .dk kl]) | none => False) | none => False)
      | none => False)
    rw [two_1]
    refine ⟨rfl, ?_⟩
    show K ((valD kl (kI y)).getD (fr 0)) _
    rw [gl]
    exact hK
  have a6 : ∀ K : D → MS → Prop, K (fr Fx) (pre ++ [.lk od vs kn, .dk kl]) → wDGet (wVar 6) (wVar 7) [r0, r1, r2, r3, r4, r5, some (.loc pre.length), some (.int (x : Int)), some (.int (j : Int)), some (.loc (pre.length + 1)), r10, some (.int (y : Int)), some (fr s)] (pre ++ [.lk od vs kn, .dk kl]) K X0 := fun K hK => by
    show (match (pre ++ [MO.lk od vs kn, MO.dk kl])[pre.length]? with
      | some m => (match lookM m (.int (x : Int)) with | some (some x) => K x (pre ++ [.lk od vs kn, .dk kl]) | _ => False)
      | none => False)
    rw [two_0]
    show (match some (valD kn (kI x)) with | some (some x) => K x (pre ++ [.lk od vs kn, .dk kl]) | _ => False)
    rw [gn]
    exact hK
  refine a9 _ ?_
  refine a6 _ ?_
  refine ⟨Fx, s, rfl, f1, f2, ?_⟩
  refine law_sum_eq (t := false) (qs := [o, Fx * s]) rfl so ?_
  try dsimp only
  rw [two_1]
  try dsimp only
  rw [putM_dk hl]
  try dsimp only
  rw [two_s1]
  rw [show sumR [o, Fx * s] = o + Fx * s by show o + (Fx * s + 0) = _; rw [Rat.add_zero]]
  exact h
theorem mfor {pre : MS} {od : Obj} {vs : List (Key × V)} {kn kl : List (Key × D)} {x j : Nat} {Δ : DEnds} (Fx o1 o2 u : Rat) (r0 r1 r2 r3 r4 r5 r11 r12 : Option D) (_d : Unit) (hl : kl.length < 100000) (gn : valD kn (kI x) = some (fr Fx)) (gl : (valD kl (kI (x + 1))).getD (fr 0) = fr o1)
    (so : SumOk [o1, Fx * u]) (f1 : Fit 4400 Fx) (f2 : Fit 4400 u) (f3 : Fit 4400 (1 - u))
    (g2 : (putD kl (kI (x + 1)) (fr (o1 + Fx * u))).length < 100000 ∧ (valD (putD kl (kI (x + 1)) (fr (o1 + Fx * u))) (kI x)).getD (fr 0) = fr o2) (so2 : SumOk [o2, Fx * (1 - u)])
    (h : Δ.nx [r0, r1, r2, r3, r4, r5, some (.loc pre.length), some (.int (x : Int)), some (.int (j : Int)), some (.loc (pre.length + 1)), some (fr u), some (.int (x : Int)), some (fr (1 - u))] (pre ++ [.lk od vs kn, .dk (putD (putD kl (kI (x + 1)) (fr (o1 + Fx * u))) (kI x) (fr (o2 + Fx * (1 - u))))])) :
    w_mfor [r0, r1, r2, r3, r4, r5, some (.loc pre.length), some (.int (x : Int)), some (.int (j : Int)), some (.loc (pre.length + 1)), some (fr u), r11, r12] (pre ++ [.lk od vs kn, .dk kl]) Δ X0 := by
  have e1 : ((x + 1 : Nat) : Int) = (x : Int) + 1 := by omega
  show sp_law_stay [fr u] (pre ++ [.lk od vs kn, .dk kl]) (fun d mu1 => wForGo (dgTup 2 (dgCons (dgName 11) (dgCons (dgName 12) dgNil))) w_mput [D.tup [.int ((x : Int) + 1), fr u], D.tup [.int (x : Int), d]] [r0, r1, r2, r3, r4, r5, some (.loc pre.length), some (.int (x : Int)), some (.int (j : Int)), some (.loc (pre.length + 1)), some (fr u), r11, r12] mu1 Δ X0) X0
  refine ⟨u, rfl, ?_⟩
  dsimp only
  refine ⟨rfl, ?_⟩
  show w_mput [r0, r1, r2, r3, r4, r5, some (.loc pre.length), some (.int (x : Int)), some (.int (j : Int)), some (.loc (pre.length + 1)), some (fr u), some (.int ((x : Int) + 1)), some (fr u)] (pre ++ [.lk od vs kn, .dk kl]) ⟨fun ρ mu => wForGo (dgTup 2 (dgCons (dgName 11) (dgCons (dgName 12) dgNil))) w_mput [D.tup [.int (x : Int), fr (1 - u)]] ρ mu Δ X0, Δ.rt, Δ.nx, fun ρ mu => wForGo (dgTup 2 (dgCons (dgName 11) (dgCons (dgName 12) dgNil))) w_mput [D.tup [.int (x : Int), fr (1 - u)]] ρ mu Δ X0⟩ X0
  rw [← e1]
  refine mput Fx o1 u r0 r1 r2 r3 r4 r5 _ hl gn gl so f1 f2 ?_
  refine ⟨rfl, ?_⟩
  show w_mput [r0, r1, r2, r3, r4, r5, some (.loc pre.length), some (.int (x : Int)), some (.int (j : Int)), some (.loc (pre.length + 1)), some (fr u), some (.int (x : Int)), some (fr (1 - u))] (pre ++ [.lk od vs kn, .dk (putD kl (kI (x + 1)) (fr (o1 + Fx * u)))]) ⟨fun ρ mu => wForGo (dgTup 2 (dgCons (dgName 11) (dgCons (dgName 12) dgNil))) w_mput [] ρ mu Δ X0, Δ.rt, Δ.nx, fun ρ mu => wForGo (dgTup 2 (dgCons (dgName 11) (dgCons (dgName 12) dgNil))) w_mput [] ρ mu Δ X0⟩ X0
  refine mput Fx o2 (1 - u) r0 r1 r2 r3 r4 r5 _ g2.1 gn g2.2 so2 f1 f3 ?_
  exact h
end DL
set_option maxHeartbeats 4000000
/-! SR5C: law k05: the law's own way of putting together, with a dict. -/
namespace DL
open PySem PySem.Spec PyProof.Rows L2
local macro_rules | `(tactic| walk_at "dl") => `(tactic| simp only [wSeq, wAsg, wRet, wVar, wC, wOp, wUn, wTest, wChain, wTru, wAnd, wOr, wNot, wAndV, wOrV, wNotV, wIf, wNil, wCons, wTup, wLst, wLstM, wCall0, wCall, wRaise, wB, wSl, wPart, wNoPart, wNext, wDrop, wIfS, wPar, wAsgG, wSetI, wApp, dgName, dgTup, dgCons, dgNil, gt, List.set, dAdd, dSub, dMul, dFdiv, dMod, dPow, dNeg, dCmpI, dEq, dNe, dIsN, dNotN, isN, dLen, dIsi, tyD, dAbs, dMax, dMin, dInt, dBool, dTuple, dList, dIx, dSl, atI_0, atI_1, atI_2, atI_3, eqd_int, okd_int,
  List.getElem?_cons_zero, List.getElem?_cons_succ, List.length_cons, List.length_nil, startD, List.map_cons, List.map_nil, List.cons_append, List.nil_append, List.append_nil, List.replicate, List.replicate_zero, List.replicate_succ, Nat.sub_self, if_true, if_false, Bool.false_eq_true, ite_true, ite_false, reduceIte, true_and, and_true, decide_true, decide_false, Bool.not_true, Bool.not_false, Nat.reduceSub, Nat.reduceAdd])
local macro_rules | `(tactic| walk_at "ty") => `(tactic| simp only [isT_0, isT_1, isT_2, isT_3, isT_4, isT_5, isT_6, isT_7, isT_8, isT_9, isT_10, isT_11, isT_12, isT_13, isT_14, isT_15, isT_16, isT_17, isT_18, isT_19, isT_20, isT_21, isT_22, isT_23, isT_24, isT_25, isT_26, isT_27, isT_28, isT_29, memT_0, memT_1, memT_2, memT_3, memT_4, true_and, Bool.not_true, Bool.not_false])
theorem rd_law_merged : ∀ ds mu Φ, sp_law_merged ds mu Φ X0 → w_law_merged (startD 13 ds) mu ⟨fun _ mu' => fin mu Φ .non mu', fin mu Φ, fun _ _ => False, fun _ _ => False⟩ X0 := by
  rintro _ mu Φ ⟨p, a, b, rfl, hp, ha, hb, hf, h⟩
  unfold w_law_merged
  refine seq_cut fun R e => ?_
  walk_at "dl"
  rw [max_nat, min_nat]
  subst e
  have hmx : max a b ≤ 6 := by omega
  have hmn : min a b ≤ max a b := by omega
  unfold mgD at h
  generalize hH : max a b = H at h hmx hmn
  generalize hL : min a b = L at h hmn
  refine seq_cut fun R e => ?_
  unfold wLc wR1 wDisp wPCons wPNil
  walk_at "dl"
  refine ⟨by omega, by omega, by unfold rgD; rw [List.length_map, List.length_range]; omega, ?_⟩
  rw [show ((H : Int) + (L : Int) + 1).toNat = H + L + 1 by omega, rgD0]
  refine lc_map (f := fun i : Nat => D.int (i : Int)) (g := fun i : Nat => fr (ch p i)) (fun i hi Ψ hΨ => ?_) ?_
  · have hi := List.mem_range.mp hi
    simp only [wipeD]
    walk_at "dl"
    refine ⟨p, i, rfl, hp, by omega, ?_⟩
    unfold stD
    walk_at "dl"
    exact hΨ
  · rw [show (List.range (H + L + 1)).map (fun i : Nat => fr (ch p i)) = (stepsR p (H + L + 1)).map fr by unfold stepsR; rw [List.map_map]; rfl]
    dsimp only [keyD]
    refine ⟨get_last _ _, ?_⟩
    rw [set_last, dict0 H (ch p)]
    subst e
    refine seq_cut fun R e => ?_
    unfold wFor
    unfold wR1
    walk_at "dl"
    refine ⟨by omega, by omega, ?_⟩
    rw [Int.toNat_natCast, rgD0]
    refine for_inv (fun j ρ S => j ≤ L ∧ ∃ (pre : MS) (r7 r8 r9 r10 r11 r12 : Option D), S = pre ++ [.dk (tabK (j + 1) (H + j) (tn (ch p) j (dlt H)))] ∧ pre.take mu.length = mu ∧ ρ = [some (plD p), some (.int (a : Int)), some (.int (b : Int)), some (.int (H : Int)), some (.int (L : Int)), some (.lst ((stepsR p (H + L + 1)).map fr)), some (.loc pre.length), r7, r8, r9, r10, r11, r12]) ⟨Nat.zero_le _, mu, _, _, _, _, _, _, rfl, List.take_length, rfl⟩ (fun j d ρ S Kp hd hI hK => ?_) fun ρ S hI => ?_
    · obtain ⟨hjL, pre, r7, r8, r9, r10, r11, r12, rfl, hpre, rfl⟩ := hI
      obtain ⟨hj, rfl⟩ := range_at hd
      unfold dgName
      simp only [List.set]
      refine seq_cut fun R e => ?_
      unfold wDNewK
      walk_at "dl"
      rw [pre_two, List.length_append, List.length_singleton]
      subst e
      refine seq_cut fun R e => ?_
      unfold wForD
      walk_at "dl"
      rw [two_0]
      dsimp only
      intro od vs
      rw [two_s0, tabK_keys]
      have hjH : j ≤ H := by omega
      have hFg := tn_gd hp hf (show H ≤ 10 by omega) hjH
      generalize hF : tn (ch p) j (dlt H) = F at hFg
      refine forL_inv (fun i ρ S => i ≤ j + 1 ∧ ∃ (f : Nat → Rat) (r7 r10 r11 r12 : Option D), S = pre ++ [.lk od vs (tabK (j + 1) (H + j) F), .dk (tabK (nI i) (H + j + 1) f)] ∧ (∀ l, H + j + 1 < l + i → l ≤ H + j + 1 → f l = tst (ch p) j F l) ∧ (i ≠ 0 → f (H + j + 1 - i) = lft (ch p) j F (H + j + 1 - i)) ∧ ρ = [some (plD p), some (.int (a : Int)), some (.int (b : Int)), some (.int (H : Int)), some (.int (L : Int)), some (.lst ((stepsR p (H + L + 1)).map fr)), some (.loc pre.length), r7, some (.int (j : Int)), some (.loc (pre.length + 1)), r10, r11, r12])
        (fun i ρ S hI => by obtain ⟨_, f, _, _, _, _, rfl, _⟩ := hI; exact two_0) (fun i d ρ S Kp2 bk rt hd2 hI hK2 => ?_) (fun ρ S hI => ?_) _ 0 _ _ rfl (Nat.zero_le _) ⟨Nat.zero_le _, fun _ => 0, _, _, _, _, rfl, fun l h1 h2 => by omega, fun z => absurd rfl z, rfl⟩
      · obtain ⟨hi1, f, r7, r10, r11, r12, rfl, hf1, hf2, rfl⟩ := hI
        obtain ⟨hi, rfl⟩ : i < j + 1 ∧ d = .int ((H + j - i : Nat) : Int) := by
          rw [List.getElem?_map] at hd2
          obtain ⟨t, ht, rfl⟩ := Option.map_eq_some_iff.mp hd2
          obtain ⟨lt, et⟩ := List.getElem?_eq_some_iff.mp ht
          rw [List.getElem_range] at et
          rw [List.length_range] at lt
          subst et
          exact ⟨lt, rfl⟩
        have hsub : H + j + 1 - i = (H + j - i) + 1 := by omega
        have hsub2 : H + j + 1 - (i + 1) = H + j - i := by omega
        obtain ⟨x, hx⟩ : ∃ x, x = H + j - i := ⟨_, rfl⟩
        rw [← hx] at hsub hsub2 ⊢
        have hxH : H ≤ x := by omega
        have hx20 : x + 1 ≤ 20 := by omega
        have hB := mgB_pos hp
        have hBj : 0 < (bas p * anum p) ^ j * (bas p * anum p) := Nat.mul_pos (Nat.pow_pos hB) hB
        have hs : (bas p * anum p) ^ j * (bas p * anum p) * 1000 < 2 ^ 4400 := by
          rw [← Nat.pow_succ]
          exact mgB_pow hp (by omega)
        have hs1 : (bas p * anum p) ^ j * (bas p * anum p) < 2 ^ 4400 := by omega
        have hsj : (bas p * anum p) ^ j < 2 ^ 4400 := Nat.lt_of_le_of_lt (Nat.le_mul_of_pos_right _ hB) hs1
        have hsB : bas p * anum p < 2 ^ 4400 := Nat.lt_of_le_of_lt (Nat.le_mul_of_pos_left _ (Nat.pow_pos hB)) hs1
        have gu := u_gd hp hf (show j ≤ x by omega) (by omega)
        have gu1 := u_gd hp hf (show j ≤ x + 1 by omega) (by omega)
        have gl : Gd ((bas p * anum p) ^ j * (bas p * anum p)) (lft (ch p) j F (x + 1)) := gd_mul (hFg (x + 1)) (one_sub_gd gu1)
        have gx : Gd ((bas p * anum p) ^ j * (bas p * anum p)) (F x * (ch p x * (ch p j)⁻¹)) := gd_mul (hFg x) gu
        have gy : Gd ((bas p * anum p) ^ j * (bas p * anum p)) (F x * (1 - ch p x * (ch p j)⁻¹)) := gd_mul (hFg x) (one_sub_gd gu)
        have gz : Gd ((bas p * anum p) ^ j * (bas p * anum p)) 0 := ⟨Rat.le_refl, by decide, isM_zero⟩
        have hF0 : i = 0 → lft (ch p) j F (x + 1) = 0 := fun z => by
          unfold lft
          rw [← hF, tn_hi (by omega), Rat.zero_mul]
        have fj : Fit 4400 (ch p j)⁻¹ := (fit_invN (fit_chN hp (by omega)) (ch_ok hp j).1).mono (by decide)
        have fx : Fit 4400 (ch p x) := (fit_chN hp (by omega)).mono (by decide)
        simp only [List.set]
        refine seq_cut fun R2 e2 => ?_
        walk_at "dl"
        rw [st_at (show x < H + L + 1 by omega)]
        walk_at "dl"
        rw [st_at (show j < H + L + 1 by omega)]
        unfold fr
        walk_at "dl"
        rw [← fr_inv (ch_ok hp j).1]
        refine ⟨ch p x, (ch p j)⁻¹, rfl, fx, fj, ?_⟩
        dsimp only
        subst e2
        generalize hu : ch p x * (ch p j)⁻¹ = u at gu gx gy
        have fu : Fit 4400 u := gu.fit hB hsB
        have fu1 : Fit 4400 (1 - u) := (one_sub_gd gu).fit hB hsB
        have gN : valD (tabK (j + 1) (H + j) F) (kI x) = some (fr (F x)) := by
          rw [valD_tabK (by omega), if_pos (by omega)]
        have g1 : (valD (tabK (nI i) (H + j + 1) f) (kI (x + 1))).getD (fr 0) = fr (lft (ch p) j F (x + 1)) := by
          rw [← hsub]
          refine top_get (by omega) (fun z => by rw [hsub]; exact hF0 z) fun z => hf2 z
        have g2 : ∀ f', (valD (tabK (i + 1) (H + j + 1) f') (kI x)).getD (fr 0) = fr 0 := fun f' => by
          rw [← hsub2]
          exact low_get (by omega)
        have e4 : kI x = kI (H + j + 1 - (i + 1)) := by rw [hsub2]
        have e5 : kI (x + 1) = kI (H + j + 1 - i) := by rw [hsub]
        refine mfor (F x) (lft (ch p) j F (x + 1)) 0 u _ _ _ _ _ _ _ _ () (tabK_len _ _ _ ▸ (by unfold nI; split <;> omega)) gN g1 (sumOk2 hBj hs gl gx) ((hFg x).fit (Nat.pow_pos hB) hsj) fu fu1 ?_ (sumOk2 hBj hs gz gy) ?_
        · rw [e5, top_put _ (by omega)]
          exact ⟨by rw [tabK_len]; omega, g2 _⟩
        · rw [e5, top_put _ (by omega), e4, putD_new _ (by omega)]
          refine hK2 _ _ ⟨by omega, fun l => if l = H + j + 1 - (i + 1) then 0 + F x * (1 - u) else if l = H + j + 1 - i then lft (ch p) j F (x + 1) + F x * u else f l, some (.int (x : Int)), some (fr u), some (.int (x : Int)), some (fr (1 - u)), ?_, fun l h1 h2 => ?_, fun _ => ?_, rfl⟩
          · rw [show nI (i + 1) = i + 1 + 1 by unfold nI; rw [if_neg (by omega)]]
          · dsimp only
            rw [if_neg (by omega)]
            by_cases hl : l = H + j + 1 - i
            · rw [if_pos hl, hl, hsub, tst_lft, hu]
            · rw [if_neg hl]
              exact hf1 l (by omega) h2
          · dsimp only
            rw [if_pos rfl, hsub2, Rat.zero_add]
            unfold lft
            rw [hu]
      · obtain ⟨hi1, f, r7, r10, r11, r12, rfl, hf1, hf2, rfl⟩ := hI
        rw [List.length_map, List.length_range] at hf1 hf2 ⊢
        rw [two_s0]
        dsimp only
        subst e
        walk_at "dl"
        refine hK _ _ ⟨by omega, pre ++ [.dk (tabK (j + 1) (H + j) F)], r7, some (.int (j : Int)), some (.loc (pre.length + 1)), r10, r11, r12, ?_, ?_, ?_⟩
        · rw [pre_two]
          congr 3
          have e3 : nI (j + 1) = j + 1 + 1 := by unfold nI; rw [if_neg (by omega)]
          rw [e3, show H + (j + 1) = H + j + 1 by omega]
          congr 1
          refine tabK_congr (by omega) fun l h1 h2 => ?_
          show f l = tst (ch p) j (tn (ch p) j (dlt H)) l
          rw [hF]
          by_cases hl : l = H
          · subst hl
            have := hf2 (by omega)
            rw [show l + j + 1 - (j + 1) = l by omega] at this
            rw [this, ← hF, tst_H]
          · exact hf1 l (by omega) (by omega)
        · rw [List.take_append_of_le_length (by rw [← hpre, List.length_take]; omega)]
          exact hpre
        · rw [List.length_append, List.length_singleton]
    · obtain ⟨hjL, pre, r7, r8, r9, r10, r11, r12, rfl, hpre, rfl⟩ := hI
      rw [List.length_map, List.length_range]
      subst e
      unfold wLc wR2
      walk_at "dl"
      refine ⟨⟨by omega, by omega, by omega, by omega⟩, by unfold rgD; rw [List.length_map, List.length_range]; omega, ?_⟩
      rw [show ((H : Int) + (L : Int) + 1 - (H : Int)).toNat = L + 1 by omega]
      refine lc_map (xs := List.range (L + 1)) (f := fun i : Nat => D.int ((H : Int) + (i : Int))) (g := fun i : Nat => fr (tn (ch p) L (dlt H) (H + i))) (fun i hi Ψ hΨ => ?_) ?_
      · have hi := List.mem_range.mp hi
        simp only [wipeD]
        unfold wDGet2
        walk_at "dl"
        rw [get_last]
        refine ⟨rfl, ?_⟩
        try walk_at "dl"
        rw [show (H : Int) + (i : Int) = ((H + i : Nat) : Int) by omega]
        rw [lookM_dk, valD_tabK (by omega), if_pos (by omega)]
        exact hΨ
      · rw [mg_tab]
        exact fin_take (nlL_fr _ _) (by rw [List.take_append_of_le_length (by rw [← hpre, List.length_take]; omega)]; exact hpre) h
end DL
set_option maxHeartbeats 4000000
/-! SR5D: law k05: one deck's registers put together looked at. -/
namespace DL
open PySem PySem.Spec PyProof.Rows L2
local macro_rules | `(tactic| walk_at "dl") => `(tactic| simp only [wSeq, wAsg, wRet, wVar, wC, wOp, wUn, wTest, wChain, wTru, wAnd, wOr, wNot, wAndV, wOrV, wNotV, wIf, wNil, wCons, wTup, wLst, wLstM, wCall0, wCall, wRaise, wB, wSl, wPart, wNoPart, wNext, wDrop, wIfS, wPar, wAsgG, wSetI, wApp, dgName, dgTup, dgCons, dgNil, gt, List.set, dAdd, dSub, dMul, dFdiv, dMod, dPow, dNeg, dCmpI, dEq, dNe, dIsN, dNotN, isN, dLen, dIsi, tyD, dAbs, dMax, dMin, dInt, dBool, dTuple, dList, dIx, dSl, atI_0, atI_1, atI_2, atI_3, eqd_int, okd_int,
  List.getElem?_cons_zero, List.getElem?_cons_succ, List.length_cons, List.length_nil, startD, List.map_cons, List.map_nil, List.cons_append, List.nil_append, List.append_nil, List.replicate, List.replicate_zero, List.replicate_succ, Nat.sub_self, if_true, if_false, Bool.false_eq_true, ite_true, ite_false, reduceIte, true_and, and_true, decide_true, decide_false, Bool.not_true, Bool.not_false, Nat.reduceSub, Nat.reduceAdd])
local macro_rules | `(tactic| walk_at "ty") => `(tactic| simp only [isT_0, isT_1, isT_2, isT_3, isT_4, isT_5, isT_6, isT_7, isT_8, isT_9, isT_10, isT_11, isT_12, isT_13, isT_14, isT_15, isT_16, isT_17, isT_18, isT_19, isT_20, isT_21, isT_22, isT_23, isT_24, isT_25, isT_26, isT_27, isT_28, isT_29, memT_0, memT_1, memT_2, memT_3, memT_4, true_and, Bool.not_true, Bool.not_false])
section
variable {mg : Str → Option Value} {N : Nat} {bad : Str} {C : Pl → Nat → Nat → Prop} {f : Pl → Nat → Nat → D} {p : Pl} {mu : MS} {Φ : D → MS → Prop} {Ξ : XD}
theorem use_F (hp : PlOk p) (hf : fallB p = true) {i j : Nat} (hi : i ≤ N) (hj : j ≤ N) (hC : C p i j) (h : Φ (f p i j) mu) : spF N bad C f mg [plD p, .int (i : Int), .int (j : Int)] mu Φ Ξ :=
  ⟨_, _, _, rfl, pl_plD p, rfl, rfl, no_pl hp, fun p' e _ => by
    rw [← plD_inj e]
    refine ⟨fun z => (by rw [hf] at z; cases z), fun _ z => (by rw [inR_nat hi] at z; cases z), fun _ _ z => (by rw [inR_nat hj] at z; cases z), fun i' j' _ e1 e2 _ _ => ?_⟩
    injection e1 with e1
    injection e2 with e2
    rw [show i' = i by omega, show j' = j by omega]
    exact ⟨hC, h⟩⟩
theorem bad_F1 {v a b : D} (hv : pl v = true) (ha : pl a = true) (hb : pl b = true) (hi : isPl v = false) (h : Ξ (cl mg "InvalidPlan") [] mu) : spF N bad C f mg [v, a, b] mu Φ Ξ :=
  ⟨_, _, _, rfl, hv, ha, hb, fun _ => h, fun p e hp => by rw [e, isPl_plD hp] at hi; cases hi⟩
theorem bad_F2 {a b : D} (hp : PlOk p) (hf : fallB p = false) (ha : pl a = true) (hb : pl b = true) (h : Ξ (cl mg "NotFalling") [] mu) : spF N bad C f mg [plD p, a, b] mu Φ Ξ :=
  ⟨_, _, _, rfl, pl_plD p, ha, hb, no_pl hp, fun p' e _ => by
    rw [← plD_inj e]
    exact ⟨fun _ => h, fun z => (by rw [hf] at z; cases z), fun z => (by rw [hf] at z; cases z), fun _ _ z => (by rw [hf] at z; cases z)⟩⟩
theorem bad_F3 {a b : D} (hp : PlOk p) (hf : fallB p = true) (ha : pl a = true) (hb : pl b = true) (hi : inR a 0 N = false) (h : Ξ (cl mg bad) [] mu) : spF N bad C f mg [plD p, a, b] mu Φ Ξ :=
  ⟨_, _, _, rfl, pl_plD p, ha, hb, no_pl hp, fun p' e _ => by
    rw [← plD_inj e]
    refine ⟨fun z => (by rw [hf] at z; cases z), fun _ _ => h, fun _ z => (by rw [hi] at z; cases z), fun i j _ e1 _ h1 _ => ?_⟩
    rw [e1, inR_nat h1] at hi
    cases hi⟩
theorem bad_F4 {b : D} {i : Nat} (hp : PlOk p) (hf : fallB p = true) (hn : i ≤ N) (hb : pl b = true) (hi : inR b 0 N = false) (h : Ξ (cl mg bad) [] mu) : spF N bad C f mg [plD p, .int (i : Int), b] mu Φ Ξ :=
  ⟨_, _, _, rfl, pl_plD p, rfl, hb, no_pl hp, fun p' e _ => by
    rw [← plD_inj e]
    refine ⟨fun z => (by rw [hf] at z; cases z), fun _ z => (by rw [inR_nat hn] at z; cases z), fun _ _ _ => h, fun i j _ _ e2 _ h2 => ?_⟩
    rw [e2, inR_nat h2] at hi
    cases hi⟩
end
theorem mgOk_20 {p : Pl} (hp : PlOk p) {a b : Nat} (ha : a ≤ 6) (hb : b ≤ 6) : MgOk p (max a b) (min a b) := ⟨bas p * anum p, mgB_pos hp, mgB_20 hp (by omega) (by omega), Nat.lt_of_le_of_lt (Nat.le_mul_of_pos_right _ (by decide)) (mgB_pow hp (n := min a b) (by omega))⟩
theorem mcOk_20 {p : Pl} (hp : PlOk p) {n m : Nat} (hn : n ≤ 4) (hm : m ≤ 4) : McOk p n m := by
  refine ⟨bas p ^ n, bas p ^ m, bas p * anum p, Nat.pow_pos (bas_pos p), Nat.pow_pos (bas_pos p), mgB_pos hp, chs_gd hp (by omega), chs_gd hp (by omega), fun a b ha hb => mgB_20 hp (by omega) (by omega), ?_⟩
  have h1 : ∀ k, k ≤ 4 → bas p ^ k ≤ (1000 ^ 25) ^ 4 := fun k hk => Nat.le_trans (Nat.pow_le_pow_left (bas_le hp) k) (Nat.pow_le_pow_right (by decide) hk)
  have h2 : (bas p * anum p) ^ min n m ≤ (1000 ^ 50) ^ 4 := Nat.le_trans (Nat.pow_le_pow_left (mgB_le hp) _) (Nat.pow_le_pow_right (by decide) (by omega))
  exact Nat.lt_of_le_of_lt (Nat.mul_le_mul_right _ (Nat.mul_le_mul (Nat.mul_le_mul (h1 n hn) (h1 m hm)) h2)) (by decide +kernel)
theorem mgD_comm (p : Pl) (a b : Nat) : mgD p a b = mgD p b a := by
  show D.tup ((mg (ch p) (max a b) (min a b)).map fr) = .tup ((mg (ch p) (max b a) (min b a)).map fr)
  rw [Nat.max_comm, Nat.min_comm]
theorem eqd_frs (l : List Rat) : eqd (.tup (l.map fr)) (.tup (l.map fr)) = true := by
  rw [eqd_tup, eqdL_frs]
  exact decide_eq_true rfl
theorem wE_terms (f : Nat → Rat) (qs : List Rat) : sumR ((List.range qs.length).map fun j => qs.getD j 0 * f j) = wE f 0 qs := by
  rw [wE_sum]
  congr 1
  refine List.map_congr_left fun j _ => ?_
  rw [Nat.zero_add]
def sp_law_right : DSp := fun ds mu Φ _ => ∃ (p : Pl) (k n : Nat), ds = [.loc k, plD p] ∧ PlOk p ∧ fallB p = true ∧ n ≤ 80000 ∧ Dk k mu n ∧ ∀ mu', DkTo k (n + 10) mu mu' → Φ (.bl true) mu'
def w_law_right (mg : Str → Option Value) : DWS := (wSeq (wPar 2 3 (wCons (wCall0 sp_law_pick (wCons (wVar 0) (wCons (wC (.int 7)) wNil))) (wCons (wCall0 sp_law_pick (wCons (wVar 0) (wCons (wC (.int 7)) wNil))) wNil)))
    (wSeq (wAsg 4 (wCall0 (sp_merged mg) (wCons (wVar 1) (wCons (wVar 2) (wCons (wVar 3) wNil)))))
    (wSeq (wIfS (wNot (wTest (wCall0 (sp_law_same 6) (wCons (wVar 4) (wCons (wCall0 sp_law_merged (wCons (wVar 1) (wCons (wVar 2) (wCons (wVar 3) wNil)))) wNil))))) (wRet (wC (.bl false))) wNext)
    (wSeq (wIfS (wTest (wOp dNe (wVar 4) (wCall0 (sp_merged mg) (wCons (wVar 1) (wCons (wVar 3) (wCons (wVar 2) wNil)))))) (wRet (wC (.bl false))) wNext)
    (wSeq (wIfS (wTest (wOp dIsN (wCall0 sp_law_untrue (wCons (wVar 1) wNil)) (wC .non))) (wSeq (wPar 5 6 (wCons (wB dMax (wCons (wVar 2) (wCons (wVar 3) wNil))) (wCons (wLstM wNil) wNil)))
    (wSeq (wFor (wEnA (wCons (wVar 4) wNil)) (dgTup 2 (dgCons (dgName 7) (dgCons (dgName 8) dgNil))) (wApp (wVar 6) (wCall0 sp_law_times (wCons (wVar 8) (wCons (wCall0 sp_law_told (wCons (wVar 1) (wCons (wOp dAdd (wVar 5) (wVar 7)) wNil))) wNil)))))
    (wFrz 6 (wIfS (wTest (wOp dNe (wCall0 sp_law_sum (wCons (wVar 6) wNil)) (wCall0 sp_law_sum (wCons (wLst (wCons (wCall0 sp_law_told (wCons (wVar 1) (wCons (wVar 2) wNil))) (wCons (wCall0 sp_law_told (wCons (wVar 1) (wCons (wVar 3) wNil))) wNil))) wNil)))) (wRet (wC (.bl false))) wNext)))) wNext)
    (wSeq (wPar 9 10 (wCons (wCall0 sp_law_pick (wCons (wVar 0) (wCons (wC (.int 5)) wNil))) (wCons (wCall0 sp_law_pick (wCons (wVar 0) (wCons (wC (.int 5)) wNil))) wNil)))
    (wSeq (wAsg 11 (wB dTuple (wCons (wOp dIx (wCall0 sp_law_rows (wCons (wVar 1) (wCons (wOp dAdd (wVar 9) (wVar 10)) wNil))) (wOp dAdd (wVar 9) (wVar 10))) wNil)))
    (wRet (wCall0 (sp_law_same 6) (wCons (wCall0 (sp_merged_chances mg) (wCons (wVar 1) (wCons (wVar 9) (wCons (wVar 10) wNil)))) (wCons (wVar 11) wNil)))))))))))
theorem sz_one {M N : Nat} {q : Rat} (h : Sz M N q) : Sz M N q := h
theorem rows_ok {p : Pl} (hp : PlOk p) (hf : Falls (ch p)) {H L : Nat} (hH : H ≤ 6) (hL : L ≤ H) : SumOk ((List.range (L + 1)).map fun j => (mg (ch p) H L).getD j 0 * tld (ga p) (H + j)) := by
  have hB := mgB_pos hp
  refine ⟨(bas p * anum p) ^ L * gbas p, (bas p * anum p) ^ L * Gs p, Nat.mul_pos (Nat.pow_pos hB) (gbas_pos p), fun q hq => ?_, ?_, ?_⟩
  · obtain ⟨j, hj, rfl⟩ := List.mem_map.mp hq
    have hj := List.mem_range.mp hj
    rw [mg_get]
    exact (gd_sz (Nat.pow_pos hB) (tn_gd hp hf (by omega) hL (H + j))).mul (sz_t hp (by omega))
  · have h1 : (bas p * anum p) ^ L ≤ (1000 ^ 50) ^ 6 := Nat.le_trans (Nat.pow_le_pow_left (mgB_le hp) _) (Nat.pow_le_pow_right (by decide) (by omega))
    exact Nat.lt_of_le_of_lt (Nat.mul_le_mul h1 (gbas_le hp)) (by decide +kernel)
  · rw [List.length_map, List.length_range]
    have h1 : (bas p * anum p) ^ L ≤ (1000 ^ 50) ^ 6 := Nat.le_trans (Nat.pow_le_pow_left (mgB_le hp) _) (Nat.pow_le_pow_right (by decide) (by omega))
    exact Nat.lt_of_le_of_lt (Nat.mul_le_mul (show L + 1 ≤ 7 by omega) (Nat.mul_le_mul h1 (Nat.mul_le_mul_left 20 (Nat.mul_le_mul_left K21 (gbas_le hp))))) (by decide +kernel)
theorem told_ok {p : Pl} (hp : PlOk p) {a b : Nat} (ha : a ≤ 6) (hb : b ≤ 6) : SumOk [tld (ga p) a, tld (ga p) b] := by
  refine ⟨gbas p, Gs p, gbas_pos p, fun q hq => ?_, Nat.lt_of_le_of_lt (gbas_le hp) (by decide +kernel), ?_⟩
  · simp only [List.mem_cons, List.not_mem_nil, or_false] at hq
    rcases hq with rfl | rfl
    · exact sz_t hp (by omega)
    · exact sz_t hp (by omega)
  · exact Nat.lt_of_le_of_lt (Nat.mul_le_mul_left 2 (Nat.mul_le_mul_left 20 (Nat.mul_le_mul_left K21 (gbas_le hp)))) (by decide +kernel)
theorem dkTo_take {k m N : Nat} {S S' : MS} (h : DkTo k m S S') : DkTo k m (S.take N) (S'.take N) := by
  obtain ⟨a, b, c, rfl, h2⟩ := h
  exact ⟨a, b, c, List.take_set, h2⟩
theorem dk_of_take {k m N : Nat} {S : MS} (h : Dk k (S.take N) m) : Dk k S m := by
  obtain ⟨a, b, c, h1, h2⟩ := h
  refine ⟨a, b, c, ?_, h2⟩
  rw [List.getElem?_take] at h1
  split at h1
  · exact h1
  · cases h1
theorem fin_dk {k m : Nat} {mu S mu' : MS} {Φ : D → MS → Prop} (ht : DkTo k m mu mu') (hS : S.take mu.length = mu') (h : Φ (.bl true) mu') : fin mu Φ (.bl true) S :=
  .inr ⟨mu.length, Nat.le_refl _, rfl, fun o ho => by
    rw [hS] at ho
    obtain ⟨a, b, c, rfl, _⟩ := ht
    rcases List.mem_or_eq_of_mem_set ho with z | z
    · exact .inl z
    · rw [z]
      exact .inr rfl, by rw [hS]; exact h⟩
theorem rowsD_at (p : Pl) (m : Nat) : atI (rowsD p (m + 1)) (m : Int) = some (.lst ((chs (ch p) m).map fr)) := by
  rw [atI_n, List.getElem?_map, List.getElem?_range (by omega)]
  rfl
theorem sum_told {p : Pl} (h : unt p = none) (a b : Nat) : sumR ((List.range (min a b + 1)).map fun j => (mg (ch p) (max a b) (min a b)).getD j 0 * tld (ga p) (max a b + j)) = sumR [tld (ga p) a, tld (ga p) b] := by
  have e := wE_terms (fun j => tld (ga p) (max a b + j)) (mg (ch p) (max a b) (min a b))
  rw [mg_length] at e
  rw [e, mg_mean (unt_none h)]
  show _ = tld (ga p) a + (tld (ga p) b + 0)
  by_cases h : a ≤ b
  · rw [Nat.max_eq_right h, Nat.min_eq_left h]
    grind
  · rw [Nat.max_eq_left (by omega), Nat.min_eq_right (by omega)]
    grind
theorem rd_law_right (mg : Str → Option Value) : ∀ ds mu Φ, sp_law_right ds mu Φ X0 → w_law_right mg (startD 12 ds) mu ⟨fun _ mu' => fin mu Φ .non mu', fin mu Φ, fun _ _ => False, fun _ _ => False⟩ X0 := by
  rintro _ mu Φ ⟨p, k, n, rfl, hp, hf, hn, hk, h⟩
  have fl := fallB_falls hp hf
  unfold w_law_right
  refine seq_cut fun R e => ?_
  walk_at "dl"
  refine ⟨k, 7, n, rfl, by decide, by decide, by omega, hk, fun a mu1 a0 a1 t1 => ?_⟩
  try walk_at "dl"
  refine ⟨k, 7, n + 1, rfl, by decide, by decide, by omega, t1.dk hk, fun b mu2 b0 b1 t2 => ?_⟩
  try walk_at "dl"
  have tt := t1.trans t2
  clear t1 t2
  obtain ⟨a, rfl⟩ : ∃ c : Nat, a = (c : Int) := ⟨a.toNat, (Int.toNat_of_nonneg a0).symm⟩
  obtain ⟨b, rfl⟩ : ∃ c : Nat, b = (c : Int) := ⟨b.toNat, (Int.toNat_of_nonneg b0).symm⟩
  have ha : a ≤ 6 := by omega
  have hb : b ≤ 6 := by omega
  subst e
  refine seq_cut fun R e => ?_
  walk_at "dl"
  refine use_F hp hf (by omega) (by omega) (mgOk_20 hp ha hb) ?_
  try walk_at "dl"
  subst e
  refine seq_cut fun R e => ?_
  walk_at "dl"
  refine ⟨p, a, b, rfl, hp, ha, hb, fl, ?_⟩
  refine ⟨_, rfl, shl_frs 3 (by rw [mg_length]; omega), ?_⟩
  try walk_at "dl"
  subst e
  refine seq_cut fun R e => ?_
  walk_at "dl"
  refine use_F hp hf (by omega) (by omega) (mgOk_20 hp hb ha) ?_
  rw [mgD_comm p b a]
  refine ⟨okd_tup (d := 1) (f := fr) (by decide) can_fr _, okd_tup (d := 1) (f := fr) (by decide) can_fr _, ?_⟩
  rw [eqd_frs]
  try walk_at "dl"
  subst e
  refine seq_cut fun R e => ?_
  walk_at "dl"
  refine ⟨p, rfl, hp, ?_⟩
  have fin_ : ∀ (S : MS) (r5 r6 r7 r8 : Option D), S.take mu.length = mu2 → R [some (.loc k), some (plD p), some (.int (a : Int)), some (.int (b : Int)), some (mgD p a b), r5, r6, r7, r8, none, none, none] S ⟨fun _ mu' => fin mu Φ .non mu', fin mu Φ, fun _ _ => False, fun _ _ => False⟩ X0 := fun S r5 r6 r7 r8 hS => by
    have kS : Dk k S (n + 2) := dk_of_take (N := mu.length) (by rw [hS]; exact tt.dk hk)
    subst e
    refine seq_cut fun R e => ?_
    walk_at "dl"
    refine ⟨k, 5, n + 2, rfl, by decide, by decide, by omega, kS, fun x S1 x0 x1 t1 => ?_⟩
    try walk_at "dl"
    refine ⟨k, 5, n + 3, rfl, by decide, by decide, by omega, t1.dk kS, fun y S2 y0 y1 t2 => ?_⟩
    try walk_at "dl"
    obtain ⟨x, rfl⟩ : ∃ c : Nat, x = (c : Int) := ⟨x.toNat, (Int.toNat_of_nonneg x0).symm⟩
    obtain ⟨y, rfl⟩ : ∃ c : Nat, y = (c : Int) := ⟨y.toNat, (Int.toNat_of_nonneg y0).symm⟩
    subst e
    refine seq_cut fun R e => ?_
    walk_at "dl"
    refine ⟨p, x + y, by rw [Int.natCast_add], hp, by omega, ?_⟩
    try walk_at "dl"
    rw [← Int.natCast_add, rowsD_at]
    try walk_at "dl"
    subst e
    walk_at "dl"
    refine use_F hp hf (by omega) (by omega) (mcOk_20 hp (by omega) (by omega)) ?_
    refine ⟨_, rfl, shl_frs 3 (by rw [chs_length]; omega), ?_⟩
    have t5 := dkTo_take (N := mu.length) (t1.trans t2)
    rw [hS] at t5
    exact fin_dk (tt.trans t5) rfl (h _ ((tt.trans t5).mono (by omega)))
  have hl2 : mu2.length = mu.length := tt.len
  dsimp only
  cases hu : unt p with
  | some u =>
    rw [if_neg]
    · exact fin_ mu2 _ _ _ _ (by rw [← hl2, List.take_length])
    · exact Bool.false_ne_true
  | none =>
    rw [if_pos, max_nat]
    rotate_left
    · rfl
    unfold wFor wEnA
    walk_at "dl"
    refine for_inv (fun i ρ S => S = mu2 ++ [.lst (((List.range i).map fun j => (DL.mg (ch p) (max a b) (min a b)).getD j 0 * tld (ga p) (max a b + j)).map fr)] ∧ ∃ r7 r8, ρ = [some (.loc k), some (plD p), some (.int (a : Int)), some (.int (b : Int)), some (mgD p a b), some (.int ((max a b : Nat) : Int)), some (.loc mu2.length), r7, r8, none, none, none]) ⟨rfl, _, _, rfl⟩ (fun i d ρ S Kp hd hI hK => ?_) fun ρ S hI => ?_
    · obtain ⟨rfl, r7, r8, rfl⟩ := hI
      obtain ⟨q, hq, rfl⟩ := enD_at hd
      have hiL := (List.getElem?_eq_some_iff.mp hq).1
      rw [mg_length] at hiL
      have eq1 : q = (DL.mg (ch p) (max a b) (min a b)).getD i 0 := (getD_of hq).symm
      subst eq1
      have gq := tn_gd hp fl (show max a b ≤ 10 by omega) (show min a b ≤ max a b by omega) (max a b + i)
      have hB := mgB_pos hp
      have fq : Fit 4400 ((DL.mg (ch p) (max a b) (min a b)).getD i 0) := by
        rw [mg_get]
        exact gq.fit (Nat.pow_pos hB) (Nat.lt_of_le_of_lt (Nat.le_mul_of_pos_right _ (by decide)) (mgB_pow hp (by omega)))
      walk_at "dl"
      rw [get_last]
      try walk_at "dl"
      refine ⟨p, max a b + i, by rw [Int.natCast_add], hp, by omega, ?_⟩
      try walk_at "dl"
      refine ⟨_, _, rfl, fq, fit_tld hp (by omega), ?_⟩
      try walk_at "dl"
      rw [get_last]
      refine ⟨by rw [List.length_map, List.length_map, List.length_range]; omega, ?_⟩
      rw [set_last]
      refine hK _ _ ⟨?_, _, _, rfl⟩
      rw [List.range_succ, List.map_append, List.map_append]
      rfl
    · obtain ⟨rfl, r7, r8, rfl⟩ := hI
      rw [enD_length, List.length_map, mg_length]
      dsimp only
      unfold wFrz
      walk_at "dl"
      rw [get_last]
      try walk_at "dl"
      rw [set_last]
      refine law_sum_eq (t := false) rfl (rows_ok hp fl (by omega) (by omega)) ?_
      refine ⟨p, a, rfl, hp, by omega, ?_⟩
      try walk_at "dl"
      refine ⟨p, b, rfl, hp, by omega, ?_⟩
      try walk_at "dl"
      refine law_sum_eq (t := false) (qs := [tld (ga p) a, tld (ga p) b]) rfl (told_ok hp ha hb) ?_
      refine ⟨okd_fr _, okd_fr _, ?_⟩
      rw [eqd_fr, sum_told hu, decide_eq_true rfl]
      try walk_at "dl"
      exact fin_ _ _ _ _ _ (by rw [← hl2, List.take_left' rfl])
end DL
set_option maxHeartbeats 4000000
/-! SX05: law k05: the law itself. -/
namespace DL
open PySem PySem.Spec PyProof.Rows L2
local macro_rules | `(tactic| walk_at "dl") => `(tactic| simp only [wSeq, wAsg, wRet, wVar, wC, wOp, wUn, wTest, wChain, wTru, wAnd, wOr, wNot, wAndV, wOrV, wNotV, wIf, wNil, wCons, wTup, wLst, wLstM, wCall0, wCall, wRaise, wB, wSl, wPart, wNoPart, wNext, wDrop, wIfS, wPar, wAsgG, wSetI, wApp, dgName, dgTup, dgCons, dgNil, gt, List.set, dAdd, dSub, dMul, dFdiv, dMod, dPow, dNeg, dCmpI, dEq, dNe, dIsN, dNotN, isN, dLen, dIsi, tyD, dAbs, dMax, dMin, dInt, dBool, dTuple, dList, dIx, dSl, atI_0, atI_1, atI_2, atI_3, eqd_int, okd_int,
  List.getElem?_cons_zero, List.getElem?_cons_succ, List.length_cons, List.length_nil, startD, List.map_cons, List.map_nil, List.cons_append, List.nil_append, List.append_nil, List.replicate, List.replicate_zero, List.replicate_succ, Nat.sub_self, if_true, if_false, Bool.false_eq_true, ite_true, ite_false, reduceIte, true_and, and_true, decide_true, decide_false, Bool.not_true, Bool.not_false, Nat.reduceSub, Nat.reduceAdd])
local macro_rules | `(tactic| walk_at "ty") => `(tactic| simp only [isT_0, isT_1, isT_2, isT_3, isT_4, isT_5, isT_6, isT_7, isT_8, isT_9, isT_10, isT_11, isT_12, isT_13, isT_14, isT_15, isT_16, isT_17, isT_18, isT_19, isT_20, isT_21, isT_22, isT_23, isT_24, isT_25, isT_26, isT_27, isT_28, isT_29, memT_0, memT_1, memT_2, memT_3, memT_4, true_and, Bool.not_true, Bool.not_false])
theorem ok_falling : okd (.str "falling +") = true := by decide +kernel
theorem eq_falling : eqd (.str "falling +") (.str "falling +") = true := by decide +kernel
theorem faA : fallB plA = true := by decide +kernel
theorem faB : fallB plB = true := by decide +kernel
theorem faC : fallB plC = true := by decide +kernel
def plR : Pl := ⟨[(q12, q2)], 1, 1, 1, 1⟩
theorem ok_plR : PlOk plR := ⟨by show 1 ≤ 4; decide, fun x hx => (by
  rw [List.mem_singleton.mp hx]
  exact ⟨ch_12, bd_12, bd_2⟩), ⟨ch_1, bd_1⟩, ⟨ch_1, bd_1⟩, bd_1, ⟨nn (by decide), bd_1⟩⟩
theorem faR : fallB plR = false := by decide +kernel
theorem e_R : D.tup [.tup [.tup [d12, d2]], .tup [d1, d1, d1, d1]] = plD plR := by rw [e_1, e_12, e_2]; rfl
theorem odd5L {d : D} (h : d ∈ [D.non, D.int (-1), D.int 17, D.bl true, D.str "0"]) : pl d = true ∧ inR d 0 ((16 : Nat) : Int) = false := by
  simp only [List.mem_cons, List.not_mem_nil, or_false] at h
  rcases h with rfl | rfl | rfl | rfl | rfl <;> exact ⟨rfl, rfl⟩
theorem odd4C {d : D} (h : d ∈ [D.non, D.int (-1), D.int 9, D.bl true]) : pl d = true ∧ inR d 0 ((8 : Nat) : Int) = false := by
  simp only [List.mem_cons, List.not_mem_nil, or_false] at h
  rcases h with rfl | rfl | rfl | rfl <;> exact ⟨rfl, rfl⟩
theorem mgOk_dec {p : Pl} {h N B : Nat} (hB : 0 < B) (h1 : ∀ j, j < N → ∀ i, i < N → i ≤ j → (mgc (ch p) h j i).den ∣ B) (h2 : B ^ N < 2 ^ 4400) : MgOk p h N :=
  ⟨B, hB, fun j hj i hi => isM_dvd (isM_den _) (h1 j hj i (by omega) hi), h2⟩
theorem mgA16 : MgOk plA (max 16 16) (min 16 16) := mgOk_dec (B := 65536) (by decide) (by decide +kernel) (by decide +kernel)
theorem mcB8 : McOk plB 8 8 := ⟨bas plB ^ 8, bas plB ^ 8, bas plB * anum plB, Nat.pow_pos (bas_pos _), Nat.pow_pos (bas_pos _), mgB_pos ok_plB, chs_gd ok_plB (by decide), chs_gd ok_plB (by decide), fun a b ha hb => mgB_20 ok_plB (by omega) (by omega), by decide +kernel⟩
theorem use_ch {mg : Str → Option Value} {p : Pl} {mu : MS} {Φ : D → MS → Prop} {Ξ : XD} (hp : PlOk p) {n : Nat} (hn : n ≤ 16) (h : Φ (.tup ((chs (ch p) n).map fr)) mu) : sp_chances mg [plD p, .int (n : Int)] mu Φ Ξ :=
  ⟨_, _, rfl, pl_plD p, rfl, no_pl hp, fun _ z => (by rw [show (16 : Int) = ((16 : Nat) : Int) from rfl, inR_nat (m := 16) hn] at z; cases z), fun p' n' e1 _ e2 _ => by
    rw [← plD_inj e1]
    injection e2 with e2
    rw [show n' = n by omega]
    exact h⟩
theorem falls8 {p : Pl} (hp : PlOk p) (h : dropsB (stepsR p 8) = false) : fallB p = false := by
  cases hf : fallB p with
  | false => rfl
  | true =>
    have := fallB_falls hp hf
    rw [dropsB_iff.mpr fun i _ => this i (i + 1) (by omega)] at h
    cases h
def sp_law : DSp := fun ds mu Φ _ => ∃ ns : List Int, ds = [.scr ns] ∧ ns.length ≤ 63 ∧ Φ (.bl true) mu
def w_law (K : PySem.W.Frag) (mg : Str → Option Value) : DWS := (wSeq (wFor (wItL (wSl dSl (wOp dAdd (wLst (wCons (wC (.int 0)) wNil)) (wVar 0)) wNoPart (wPart (wC (.int 10))))) (dgName 1) (wSeq (wAsg 2 (wCall0 sp_law_deck (wCons (wVar 1) (wCons (wC (.int 5)) wNil))))
    (wSeq (wFor (wR1 (wCons (wC (.int 3)) wNil)) (dgName 3) (wIfS (wNot (wTest (wCall0 sp_law_right (wCons (wVar 2) (wCons (wCall0 sp_law_falling (wCons (wVar 2) wNil)) wNil))))) (wRet (wC (.bl false))) wNext))
    (wSeq (wFor (wItL (wLst (wCons (wC .non) (wCons (wUn dNeg (wC (.int 1))) (wCons (wC (.int 17)) (wCons (wC (.bl true)) (wCons (wC (.str "0")) wNil))))))) (dgName 4) (wSeq (wIfS (wTest (wOp dNe (wTry K (KinR K mg) (cl mg "TooMany") (cl mg "ClimbError") (wCall (sp_merged mg) (wCons (wOp dIx (wCall0 sp_law_known wNil) (wC (.int 0))) (wCons (wVar 4) (wCons (wC .non) wNil))))) (wC (.str "level +")))) (wRet (wC (.bl false))) wNext)
    (wIfS (wTest (wOp dNe (wTry K (KinR K mg) (cl mg "TooMany") (cl mg "ClimbError") (wCall (sp_merged mg) (wCons (wOp dIx (wCall0 sp_law_known wNil) (wC (.int 0))) (wCons (wC (.int 2)) (wCons (wVar 4) wNil))))) (wC (.str "level +")))) (wRet (wC (.bl false))) wNext)))
    (wSeq (wFor (wItL (wLst (wCons (wC .non) (wCons (wUn dNeg (wC (.int 1))) (wCons (wC (.int 9)) (wCons (wC (.bl true)) wNil)))))) (dgName 4) (wSeq (wIfS (wTest (wOp dNe (wTry K (KinR K mg) (cl mg "TooMany") (cl mg "ClimbError") (wCall (sp_merged_chances mg) (wCons (wOp dIx (wCall0 sp_law_known wNil) (wC (.int 0))) (wCons (wVar 4) (wCons (wC .non) wNil))))) (wC (.str "count +")))) (wRet (wC (.bl false))) wNext)
    (wIfS (wTest (wOp dNe (wTry K (KinR K mg) (cl mg "TooMany") (cl mg "ClimbError") (wCall (sp_merged_chances mg) (wCons (wOp dIx (wCall0 sp_law_known wNil) (wC (.int 0))) (wCons (wC (.int 2)) (wCons (wVar 4) wNil))))) (wC (.str "count +")))) (wRet (wC (.bl false))) wNext)))
    (wSeq (wAsg 5 (wCall0 sp_law_plan (wCons (wVar 2) (wCons (wC (.int 6)) wNil))))
    (wSeq (wIfS (wNot (wTest (wCall0 sp_law_falls (wCons (wVar 5) wNil)))) (wSeq (wIfS (wTest (wOp dNe (wTry K (KinR K mg) (cl mg "TooMany") (cl mg "ClimbError") (wCall (sp_merged mg) (wCons (wVar 5) (wCons (wC .non) (wCons (wC .non) wNil))))) (wC (.str "falling +")))) (wRet (wC (.bl false))) wNext)
    (wIfS (wTest (wOp dNe (wTry K (KinR K mg) (cl mg "TooMany") (cl mg "ClimbError") (wCall (sp_merged_chances mg) (wCons (wVar 5) (wCons (wC .non) (wCons (wC .non) wNil))))) (wC (.str "falling +")))) (wRet (wC (.bl false))) wNext)) wNext)
    (wIfS (wTest (wOp dNe (wTry K (KinR K mg) (cl mg "TooMany") (cl mg "ClimbError") (wCall (sp_merged mg) (wCons (wC .non) (wCons (wC .non) (wCons (wC .non) wNil))))) (wC (.str "plan +")))) (wRet (wC (.bl false))) wNext))))))))
    (wSeq (wAsgG (dgTup 3 (dgCons (dgName 6) (dgCons (dgName 7) (dgCons (dgName 8) dgNil)))) (wCall0 sp_law_known wNil))
    (wSeq (wIfS (wOr (wTest (wOp dNe (wCall0 (sp_merged mg) (wCons (wVar 6) (wCons (wC (.int 1)) (wCons (wC (.int 1)) wNil)))) (wTup (wCons (wTup (wCons (wC (.int 1)) (wCons (wC (.int 2)) wNil))) (wCons (wTup (wCons (wC (.int 1)) (wCons (wC (.int 2)) wNil))) wNil))))) (wTest (wOp dNe (wCall0 (sp_merged mg) (wCons (wVar 6) (wCons (wC (.int 2)) (wCons (wC (.int 2)) wNil)))) (wTup (wCons (wTup (wCons (wC (.int 3)) (wCons (wC (.int 8)) wNil))) (wCons (wTup (wCons (wC (.int 9)) (wCons (wC (.int 16)) wNil))) (wCons (wTup (wCons (wC (.int 1)) (wCons (wC (.int 16)) wNil))) wNil))))))) (wRet (wC (.bl false))) wNext)
    (wSeq (wIfS (wOr (wTest (wOp dNe (wCall0 (sp_merged mg) (wCons (wVar 6) (wCons (wC (.int 3)) (wCons (wC (.int 0)) wNil)))) (wTup (wCons (wTup (wCons (wC (.int 1)) (wCons (wC (.int 1)) wNil))) wNil)))) (wTest (wOp dNe (wCall0 (sp_merged mg) (wCons (wVar 6) (wCons (wC (.int 0)) (wCons (wC (.int 1)) wNil)))) (wTup (wCons (wTup (wCons (wC (.int 1)) (wCons (wC (.int 1)) wNil))) wNil))))) (wRet (wC (.bl false))) wNext)
    (wSeq (wIfS (wTest (wOp dNe (wCall0 (sp_merged mg) (wCons (wVar 7) (wCons (wC (.int 2)) (wCons (wC (.int 1)) wNil)))) (wTup (wCons (wTup (wCons (wC (.int 2)) (wCons (wC (.int 3)) wNil))) (wCons (wTup (wCons (wC (.int 1)) (wCons (wC (.int 3)) wNil))) wNil))))) (wRet (wC (.bl false))) wNext)
    (wSeq (wIfS (wOr (wTest (wOp dNe (wCall0 (sp_merged_chances mg) (wCons (wVar 6) (wCons (wC (.int 2)) (wCons (wC (.int 2)) wNil)))) (wCall0 (sp_chances mg) (wCons (wVar 6) (wCons (wC (.int 4)) wNil))))) (wTest (wOp dNe (wCall0 (sp_merged_chances mg) (wCons (wVar 8) (wCons (wC (.int 3)) (wCons (wC (.int 1)) wNil)))) (wCall0 (sp_chances mg) (wCons (wVar 8) (wCons (wC (.int 4)) wNil)))))) (wRet (wC (.bl false))) wNext)
    (wSeq (wAsg 9 (wTup (wCons (wTup (wCons (wTup (wCons (wTup (wCons (wC (.int 1)) (wCons (wC (.int 2)) wNil))) (wCons (wTup (wCons (wC (.int 2)) (wCons (wC (.int 1)) wNil))) wNil))) wNil)) (wCons (wTup (wCons (wTup (wCons (wC (.int 1)) (wCons (wC (.int 1)) wNil))) (wCons (wTup (wCons (wC (.int 1)) (wCons (wC (.int 1)) wNil))) (wCons (wTup (wCons (wC (.int 1)) (wCons (wC (.int 1)) wNil))) (wCons (wTup (wCons (wC (.int 1)) (wCons (wC (.int 1)) wNil))) wNil))))) wNil))))
    (wSeq (wIfS (wOr (wTest (wOp dNe (wTry K (KinR K mg) (cl mg "TooMany") (cl mg "ClimbError") (wCall (sp_merged mg) (wCons (wVar 9) (wCons (wC (.int 1)) (wCons (wC (.int 1)) wNil))))) (wC (.str "falling +")))) (wTest (wOp dNe (wB dLen (wCons (wCall0 (sp_merged mg) (wCons (wVar 6) (wCons (wC (.int 16)) (wCons (wC (.int 16)) wNil)))) wNil)) (wC (.int 17))))) (wRet (wC (.bl false))) wNext)
    (wSeq (wIfS (wTest (wOp dNe (wCall0 (sp_merged mg) (wCons (wVar 7) (wCons (wC (.int 4)) (wCons (wC (.int 4)) wNil)))) (wTup (wCons (wTup (wCons (wC (.int 0)) (wCons (wC (.int 1)) wNil))) (wCons (wTup (wCons (wC (.int 0)) (wCons (wC (.int 1)) wNil))) (wCons (wTup (wCons (wC (.int 4)) (wCons (wC (.int 9)) wNil))) (wCons (wTup (wCons (wC (.int 4)) (wCons (wC (.int 9)) wNil))) (wCons (wTup (wCons (wC (.int 1)) (wCons (wC (.int 9)) wNil))) wNil)))))))) (wRet (wC (.bl false))) wNext)
    (wRet (wOp dEq (wCall0 (sp_merged_chances mg) (wCons (wVar 7) (wCons (wC (.int 8)) (wCons (wC (.int 8)) wNil)))) (wCall0 (sp_chances mg) (wCons (wVar 7) (wCons (wC (.int 16)) wNil))))))))))))))
theorem rd_law (K : PySem.W.Frag) (mg : Str → Option Value) (z1 : Rz K mg "InvalidPlan" "plan +") (z2 : Rz K mg "InvalidLevel" "level +") (z3 : Rz K mg "InvalidCount" "count +") (z4 : Rz K mg "NotFalling" "falling +") : ∀ ds mu Φ, sp_law ds mu Φ X0 → w_law K mg (startD 10 ds) mu ⟨fun _ mu' => fin mu Φ .non mu', fin mu Φ, fun _ _ => False, fun _ _ => False⟩ X0 := by
  rintro _ mu Φ ⟨ns, rfl, hn, h⟩
  unfold w_law
  refine seq_cut fun R e => ?_
  refine law_cells hn ?_
  refine for_inv (fun _ ρ S => S.take mu.length = mu ∧ ∃ r1 r2 r3 r4 r5, ρ = [some (.scr ns), r1, r2, r3, r4, r5, none, none, none, none]) ⟨List.take_length, none, none, none, none, none, rfl⟩ (fun i d ρ S Kp hd hI hK => ?_) fun ρ S hI => ?_
  · obtain ⟨hS, r1, r2, r3, r4, r5, rfl⟩ := hI
    obtain ⟨cell, rfl⟩ := ints_at hd
    unfold dgName
    simp only [List.set]
    refine seq_cut fun R e => ?_
    walk_at "dl"
    refine ⟨cell, 5, rfl, fun a b ha hb hb2 => ?_⟩
    have hk : Dk S.length (S ++ [.lst [.int a, .int b, .int 5]]) 5 := new_deck ha hb hb2 (by decide) (by decide)
    generalize hS1 : S ++ [.lst [.int a, .int b, .int 5]] = S1 at hk
    subst e
    refine seq_cut fun R e => ?_
    refine for_range (n := 3) (by decide) ?_
    refine for_inv (fun i ρ S' => DkTo S.length (5 + 30 * i) S1 S' ∧ ∃ r3, ρ = [some (.scr ns), some (.int cell), some (.loc S.length), r3, r4, r5, none, none, none, none]) ⟨hk.refl, r3, rfl⟩ (fun i d ρ S2 Kp2 hd hI hK2 => ?_) fun ρ S2 hI => ?_
    · obtain ⟨t, r3, rfl⟩ := hI
      obtain ⟨hi, rfl⟩ := range_at hd
      have hk2 := t.dk hk
      walk_at "dl"
      refine ⟨S.length, 5 + 30 * i, rfl, by omega, hk2, fun q S3 hq hqf t3 => ?_⟩
      try walk_at "dl"
      refine ⟨q, S.length, 5 + 30 * i + 20, rfl, hq, hqf, by omega, t3.dk hk2, fun S5 t4 => ?_⟩
      try walk_at "dl"
      exact hK2 _ _ ⟨by rw [show 5 + 30 * (i + 1) = 5 + 30 * i + 20 + 10 by omega]; exact (t.trans t3).trans t4, _, rfl⟩
    · obtain ⟨t, r3, rfl⟩ := hI
      rw [List.length_map, List.length_range] at t
      have hk2 := t.dk hk
      dsimp only
      subst e
      refine seq_cut fun R e => ?_
      unfold wFor wItL
      walk_at "dl"
      refine for_inv (fun i ρ S' => S' = S2 ∧ ∃ r4, ρ = [some (.scr ns), some (.int cell), some (.loc S.length), r3, r4, r5, none, none, none, none]) ⟨rfl, r4, rfl⟩ (fun i d ρ S4 Kp2 hd hI hK2 => ?_) fun ρ S4 hI => ?_
      · obtain ⟨rfl, r4, rfl⟩ := hI
        obtain ⟨hv, hi⟩ := odd5L (List.mem_of_getElem? hd)
        walk_at "dl"
        refine try_bad z2 (fun Ψ Ξ' hx => ⟨rfl, bad_F3 (b := .non) ok_plA faA hv rfl hi hx⟩) ⟨ok_level, ok_level, ?_⟩
        rw [eq_level]
        try walk_at "dl"
        refine try_bad z2 (fun Ψ Ξ' hx => ⟨rfl, bad_F4 (i := 2) ok_plA faA (by decide) hv hi hx⟩) ⟨ok_level, ok_level, ?_⟩
        rw [eq_level]
        try walk_at "dl"
        exact hK2 _ _ ⟨rfl, _, rfl⟩
      · obtain ⟨rfl, r4, rfl⟩ := hI
        dsimp only
        subst e
        refine seq_cut fun R e => ?_
        unfold wFor wItL
        walk_at "dl"
        refine for_inv (fun i ρ S' => S' = S4 ∧ ∃ r4, ρ = [some (.scr ns), some (.int cell), some (.loc S.length), r3, r4, r5, none, none, none, none]) ⟨rfl, r4, rfl⟩ (fun i d ρ S5 Kp2 hd hI hK2 => ?_) fun ρ S5 hI => ?_
        · obtain ⟨rfl, r4, rfl⟩ := hI
          obtain ⟨hv, hi⟩ := odd4C (List.mem_of_getElem? hd)
          walk_at "dl"
          refine try_bad z3 (fun Ψ Ξ' hx => ⟨rfl, bad_F3 (b := .non) ok_plA faA hv rfl hi hx⟩) ⟨ok_count, ok_count, ?_⟩
          rw [eq_count]
          try walk_at "dl"
          refine try_bad z3 (fun Ψ Ξ' hx => ⟨rfl, bad_F4 (i := 2) ok_plA faA (by decide) hv hi hx⟩) ⟨ok_count, ok_count, ?_⟩
          rw [eq_count]
          try walk_at "dl"
          exact hK2 _ _ ⟨rfl, _, rfl⟩
        · obtain ⟨rfl, r4, rfl⟩ := hI
          dsimp only
          subst e
          refine seq_cut fun R e => ?_
          walk_at "dl"
          refine ⟨S.length, 6, _, rfl, by decide, by decide, by decide, hk2, fun p S3 hp t2 => ?_⟩
          have tt := t.trans t2
          have hS3 : S3.take mu.length = mu := take_of hS (deck_take (by rw [hS1]; exact tt))
          clear tt t2 hk2 t hk hS1
          subst e
          refine seq_cut fun R e => ?_
          walk_at "dl"
          refine ⟨p, rfl, hp, ?_⟩
          have fin_ : ∀ bk : EnvD → MS → Prop, R [some (.scr ns), some (.int cell), some (.loc S.length), r3, r4, some (plD p), none, none, none, none] S3 ⟨Kp, fin mu Φ, bk, Kp⟩ X0 := fun bk => by
            subst e
            walk_at "dl"
            refine try_bad z1 (fun Ψ Ξ' hx => bad_F1 (v := .non) (a := .non) (b := .non) rfl rfl rfl rfl hx) ⟨ok_plan, ok_plan, ?_⟩
            rw [eq_plan]
            try walk_at "dl"
            exact hK _ _ ⟨hS3, _, _, _, _, _, rfl⟩
          cases hfl : dropsB (stepsR p 8) with
          | true =>
            try walk_at "dl"
            exact fin_ _
          | false =>
            try walk_at "dl"
            refine try_bad z4 (fun Ψ Ξ' hx => bad_F2 (a := .non) (b := .non) hp (falls8 hp hfl) rfl rfl hx) ⟨ok_falling, ok_falling, ?_⟩
            rw [eq_falling]
            try walk_at "dl"
            refine try_bad z4 (fun Ψ Ξ' hx => bad_F2 (a := .non) (b := .non) hp (falls8 hp hfl) rfl rfl hx) ⟨ok_falling, ok_falling, ?_⟩
            rw [eq_falling]
            try walk_at "dl"
            exact fin_ _
  · obtain ⟨hS, r1, r2, r3, r4, r5, rfl⟩ := hI
    have hfin : fin mu Φ (.bl true) S := fin_take rfl hS h
    clear hS h
    have okF : ∀ l : List Rat, okd (.tup (l.map fr)) = true := fun l => okd_tup (d := 1) (f := fr) (by decide) can_fr l
    dsimp only
    subst e
    refine seq_cut fun R e => ?_
    walk_at "dl"
    refine ⟨rfl, ?_⟩
    try walk_at "dl"
    subst e
    refine seq_cut fun R e => ?_
    walk_at "dl"
    refine use_F ok_plA faA (i := 1) (j := 1) (by decide) (by decide) (mgOk_20 ok_plA (by decide) (by decide)) ⟨okF _, rfl, ?_⟩
    rw [if_neg (by decide +kernel)]
    refine use_F ok_plA faA (i := 2) (j := 2) (by decide) (by decide) (mgOk_20 ok_plA (by decide) (by decide)) ⟨okF _, rfl, ?_⟩
    rw [if_neg (by decide +kernel)]
    subst e
    refine seq_cut fun R e => ?_
    walk_at "dl"
    refine use_F ok_plA faA (i := 3) (j := 0) (by decide) (by decide) (mgOk_20 ok_plA (by decide) (by decide)) ⟨okF _, rfl, ?_⟩
    rw [if_neg (by decide +kernel)]
    refine use_F ok_plA faA (i := 0) (j := 1) (by decide) (by decide) (mgOk_20 ok_plA (by decide) (by decide)) ⟨okF _, rfl, ?_⟩
    rw [if_neg (by decide +kernel)]
    subst e
    refine seq_cut fun R e => ?_
    walk_at "dl"
    refine use_F ok_plB faB (i := 2) (j := 1) (by decide) (by decide) (mgOk_20 ok_plB (by decide) (by decide)) ⟨okF _, rfl, ?_⟩
    rw [if_neg (by decide +kernel)]
    subst e
    refine seq_cut fun R e => ?_
    walk_at "dl"
    have neF : ∀ l : List Rat, ¬ (!eqd (.tup (l.map fr)) (.tup (l.map fr))) = true := fun l => by
      rw [eqd_frs]
      decide
    refine use_F ok_plA faA (i := 2) (j := 2) (by decide) (by decide) (mcOk_20 ok_plA (by decide) (by decide)) ?_
    refine use_ch ok_plA (n := 4) (by decide) ⟨okF _, okF _, ?_⟩
    rw [if_neg (neF _)]
    refine use_F ok_plC faC (i := 3) (j := 1) (by decide) (by decide) (mcOk_20 ok_plC (by decide) (by decide)) ?_
    refine use_ch ok_plC (n := 4) (by decide) ⟨okF _, okF _, ?_⟩
    rw [if_neg (neF _)]
    subst e
    refine seq_cut fun R e => ?_
    walk_at "dl"
    rw [show (D.tup [.tup [.tup [.tup [.int 1, .int 2], .tup [.int 2, .int 1]]], .tup [.tup [.int 1, .int 1], .tup [.int 1, .int 1], .tup [.int 1, .int 1], .tup [.int 1, .int 1]]]) = plD plR from e_R]
    subst e
    refine seq_cut fun R e => ?_
    walk_at "dl"
    refine try_bad z4 (fun Ψ Ξ' hx => bad_F2 (a := .int 1) (b := .int 1) ok_plR faR rfl rfl hx) ⟨ok_falling, ok_falling, ?_⟩
    rw [eq_falling]
    try walk_at "dl"
    refine use_F ok_plA faA (i := 16) (j := 16) (by decide) (by decide) mgA16 ?_
    try walk_at "dl"
    rw [List.length_map, mg_length, if_neg (by decide)]
    subst e
    refine seq_cut fun R e => ?_
    walk_at "dl"
    refine use_F ok_plB faB (i := 4) (j := 4) (by decide) (by decide) (mgOk_20 ok_plB (by decide) (by decide)) ⟨okF _, rfl, ?_⟩
    rw [if_neg (by decide +kernel)]
    subst e
    walk_at "dl"
    refine use_F ok_plB faB (i := 8) (j := 8) (by decide) (by decide) mcB8 ?_
    refine use_ch ok_plB (n := 16) (by decide) ⟨okF _, okF _, ?_⟩
    rw [eqd_frs]
    exact hfin
end DL
set_option maxHeartbeats 4000000
namespace DL
open PySem PySem.Spec PyProof.Rows L2
def topS (i : Nat) : Stmt := PySem.Challenge.pw_chanceclimb_k05_whole_registers_put_toge.main.body.getD i (.Pass ⟨0, 0, 0, 0⟩)
section
variable {P : Program} {w : World} {K : PySem.W.Frag} {mg : Str → Option Value} {base : Heap} {T : List (Addr × Str)}
structure Tx (K : PySem.W.Frag) (mg : Str → Option Value) : Prop where
  ValueError : mg "ValueError" = none
  abs : mg "abs" = none
  all : mg "all" = none
  any : mg "any" = none
  bool : mg "bool" = none
  enumerate : mg "enumerate" = none
  int : mg "int" = none
  isinstance : mg "isinstance" = none
  len : mg "len" = none
  list : mg "list" = none
  max : mg "max" = none
  min : mg "min" = none
  range : mg "range" = none
  str : mg "str" = none
  tuple : mg "tuple" = none
  zip : mg "zip" = none
  InvalidDraw : ∃ C : Addr, mg "InvalidDraw" = some (.ref C)
  InvalidDraws : ∃ C : Addr, mg "InvalidDraws" = some (.ref C)
  InvalidFactor : ∃ C : Addr, mg "InvalidFactor" = some (.ref C)
  InvalidLog : ∃ C : Addr, mg "InvalidLog" = some (.ref C)
  InvalidPair : ∃ C : Addr, mg "InvalidPair" = some (.ref C)
  InvalidText : ∃ C : Addr, mg "InvalidText" = some (.ref C)
  NotSmooth : ∃ C : Addr, mg "NotSmooth" = some (.ref C)
  NothingToUndo : ∃ C : Addr, mg "NothingToUndo" = some (.ref C)
  TooMany : ∃ C : Addr, mg "TooMany" = some (.ref C)
  Unlike : ∃ C : Addr, mg "Unlike" = some (.ref C)
  InvalidCount : ExF K mg "InvalidCount"
  InvalidLevel : ExF K mg "InvalidLevel"
  InvalidPlan : ExF K mg "InvalidPlan"
  NotFalling : ExF K mg "NotFalling"
  MOST_APART : ∃ tk, mg "MOST_APART" = some (.int 8 tk)
  MOST_BELOW : ∃ tk, mg "MOST_BELOW" = some (.int 1000 tk)
  MOST_COUNT : ∃ tk, mg "MOST_COUNT" = some (.int 16 tk)
  MOST_HEAD : ∃ tk, mg "MOST_HEAD" = some (.int 4 tk)
  MOST_LEVEL : ∃ tk, mg "MOST_LEVEL" = some (.int 16 tk)
  MOST_TOP : ∃ tk, mg "MOST_TOP" = some (.int 1000 tk)

abbrev s_is_within : Stmt := topS 19
theorem sc_is_within : FnScope ["value", "low", "high"] ["value", "low", "high"] (defScope s_is_within) := ⟨rfl, rfl, rfl, by decide +kernel, rfl, by decide +kernel, by decide +kernel⟩
theorem ok_is_within (t : Tx K mg) (F : Df K mg "is_within" s_is_within ["value", "low", "high"]) 
    (len : ∀ ds mu Φ Ξ, (sp_is_within) ds mu Φ Ξ → ds.length = 3) (hS : ∀ ds mu Φ Ξ, (sp_is_within) ds mu Φ Ξ → (sp_is_within) ds mu Φ X0)
    (rd : ∀ ds mu Φ, (sp_is_within) ds mu Φ X0 → (w_is_within) (startD 3 ds) mu ⟨fun _ mu' => fin mu Φ .non mu', fin mu Φ, fun _ _ => False, fun _ _ => False⟩ X0) :
    Cal P w K mg base CX0 1 "is_within" ["value", "low", "high"] (toSp T (sp_is_within)) :=
  cal0 F sc_is_within len (fun f cdv A outer s H hr => (dss_one (ds_ret (de_and (de_B call_isi s_isi (by rfl) t.isinstance (by decide +kernel) (da_cons (de_var (pv 0)) (da_cons (de_bty (by rfl) t.int (by decide +kernel)) da_nil))) (de_and (de_not (de_B call_isi s_isi (by rfl) t.isinstance (by decide +kernel) (da_cons (de_var (pv 0)) (da_cons (de_bty (by rfl) t.bool (by decide +kernel)) da_nil)))) (de_one (de_chain op_le op_le s_cmpI s_cmpI (de_var (pv 1)) (de_var (pv 0)) (de_var (pv 2))))))))) rd hS
abbrev s_divisor : Stmt := topS 20
theorem sc_divisor : FnScope ["one", "other"] ["one", "other"] (defScope s_divisor) := ⟨rfl, rfl, rfl, by decide +kernel, rfl, by decide +kernel, by decide +kernel⟩
theorem ok_divisor (t : Tx K mg) (F : Df K mg "divisor" s_divisor ["one", "other"]) 
    (len : ∀ ds mu Φ Ξ, (sp_divisor) ds mu Φ Ξ → ds.length = 2) (hS : ∀ ds mu Φ Ξ, (sp_divisor) ds mu Φ Ξ → (sp_divisor) ds mu Φ X0)
    (rd : ∀ ds mu Φ, (sp_divisor) ds mu Φ X0 → (w_divisor) (startD 2 ds) mu ⟨fun _ mu' => fin mu Φ .non mu', fin mu Φ, fun _ _ => False, fun _ _ => False⟩ X0) :
    Cal P w K mg base CX0 1 "divisor" ["one", "other"] (toSp T (sp_divisor)) :=
  cal0 F sc_divisor len (fun f cdv A outer s H hr => (dss_cons (ds_while PassesOwn.never (dt_cmp (op_neD hr.units) s_ne (de_var (pv 1)) de_int (nomark _)) (dss_one (ds_par (ps_par (i := 0) (j := 1) (by rfl) sc_divisor.nd rfl rfl (by decide) rfl rfl (da_cons (de_var (pv 1)) (da_cons (de_op op_modN s_mod (de_var (pv 0)) (de_var (pv 1))) da_nil)) (by rfl)))))
    (dss_one (ds_ret (de_B call_abs s_abs (by rfl) t.abs (by decide +kernel) (da_cons (de_var (pv 0)) da_nil)))))) rd hS
abbrev s_fraction : Stmt := topS 21
theorem sc_fraction : FnScope ["top", "below", "many"] ["top", "below"] (defScope s_fraction) := ⟨rfl, rfl, rfl, by decide +kernel, rfl, by decide +kernel, by decide +kernel⟩
theorem ok_fraction (t : Tx K mg) (F : Df K mg "fraction" s_fraction ["top", "below"]) (c_divisor : Cal P w K mg base CX0 1 "divisor" ["one", "other"] (toSp T (sp_divisor)))
    (len : ∀ ds mu Φ Ξ, (sp_fraction) ds mu Φ Ξ → ds.length = 2) (hS : ∀ ds mu Φ Ξ, (sp_fraction) ds mu Φ Ξ → (sp_fraction) ds mu Φ X0)
    (rd : ∀ ds mu Φ, (sp_fraction) ds mu Φ X0 → (w_fraction) (startD 3 ds) mu ⟨fun _ mu' => fin mu Φ .non mu', fin mu Φ, fun _ _ => False, fun _ _ => False⟩ X0) :
    Cal P w K mg base CX0 2 "fraction" ["top", "below"] (toSp T (sp_fraction)) :=
  cal0 F sc_fraction len (fun f cdv A outer s H hr => (dss_cons (ds_set (ps_set (i := 2) sc_fraction.nd rfl (Or.inl rfl) (de_call c_divisor (hr.mono (by decide)) (by rfl) (da_cons (de_var (pv 0)) (da_cons (de_var (pv 1)) da_nil)))))
    (dss_cons (ds_set (ps_set (i := 2) sc_fraction.nd rfl (Or.inl rfl) (de_if (dt_cmp op_lt s_cmpI (de_var (pv 1)) de_int (nomark _)) (de_op op_sub s_sub de_int (de_var (pv 2))) (de_var (pv 2)))))
    (dss_one (ds_ret (de_tup (da_cons (de_op op_fdivW s_fdiv (de_var (pv 0)) (de_var (pv 2))) (da_cons (de_op op_fdivW s_fdiv (de_var (pv 1)) (de_var (pv 2))) da_nil)))))))) rd hS
abbrev s_plus : Stmt := topS 22
theorem sc_plus : FnScope ["one", "other"] ["one", "other"] (defScope s_plus) := ⟨rfl, rfl, rfl, by decide +kernel, rfl, by decide +kernel, by decide +kernel⟩
theorem ok_plus (t : Tx K mg) (F : Df K mg "plus" s_plus ["one", "other"]) (c_fraction : Cal P w K mg base CX0 2 "fraction" ["top", "below"] (toSp T (sp_fraction)))
    (len : ∀ ds mu Φ Ξ, (sp_plus) ds mu Φ Ξ → ds.length = 2) (hS : ∀ ds mu Φ Ξ, (sp_plus) ds mu Φ Ξ → (sp_plus) ds mu Φ X0)
    (rd : ∀ ds mu Φ, (sp_plus) ds mu Φ X0 → (w_plus) (startD 2 ds) mu ⟨fun _ mu' => fin mu Φ .non mu', fin mu Φ, fun _ _ => False, fun _ _ => False⟩ X0) :
    Cal P w K mg base CX0 3 "plus" ["one", "other"] (toSp T (sp_plus)) :=
  cal0 F sc_plus len (fun f cdv A outer s H hr => (dss_one (ds_ret (de_call c_fraction (hr.mono (by decide)) (by rfl) (da_cons (de_op op_addA s_add (de_op op_mulA s_mul (de_ix ix_seq s_ix (de_var (pv 0)) de_int) (de_ix ix_seq s_ix (de_var (pv 1)) de_int)) (de_op op_mulA s_mul (de_ix ix_seq s_ix (de_var (pv 1)) de_int) (de_ix ix_seq s_ix (de_var (pv 0)) de_int))) (da_cons (de_op op_mulA s_mul (de_ix ix_seq s_ix (de_var (pv 0)) de_int) (de_ix ix_seq s_ix (de_var (pv 1)) de_int)) da_nil)))))) rd hS
abbrev s_minus : Stmt := topS 23
theorem sc_minus : FnScope ["one", "other"] ["one", "other"] (defScope s_minus) := ⟨rfl, rfl, rfl, by decide +kernel, rfl, by decide +kernel, by decide +kernel⟩
theorem ok_minus (t : Tx K mg) (F : Df K mg "minus" s_minus ["one", "other"]) (c_fraction : Cal P w K mg base CX0 2 "fraction" ["top", "below"] (toSp T (sp_fraction)))
    (len : ∀ ds mu Φ Ξ, (sp_minus) ds mu Φ Ξ → ds.length = 2) (hS : ∀ ds mu Φ Ξ, (sp_minus) ds mu Φ Ξ → (sp_minus) ds mu Φ X0)
    (rd : ∀ ds mu Φ, (sp_minus) ds mu Φ X0 → (w_minus) (startD 2 ds) mu ⟨fun _ mu' => fin mu Φ .non mu', fin mu Φ, fun _ _ => False, fun _ _ => False⟩ X0) :
    Cal P w K mg base CX0 3 "minus" ["one", "other"] (toSp T (sp_minus)) :=
  cal0 F sc_minus len (fun f cdv A outer s H hr => (dss_one (ds_ret (de_call c_fraction (hr.mono (by decide)) (by rfl) (da_cons (de_op op_sub s_sub (de_op op_mulA s_mul (de_ix ix_seq s_ix (de_var (pv 0)) de_int) (de_ix ix_seq s_ix (de_var (pv 1)) de_int)) (de_op op_mulA s_mul (de_ix ix_seq s_ix (de_var (pv 1)) de_int) (de_ix ix_seq s_ix (de_var (pv 0)) de_int))) (da_cons (de_op op_mulA s_mul (de_ix ix_seq s_ix (de_var (pv 0)) de_int) (de_ix ix_seq s_ix (de_var (pv 1)) de_int)) da_nil)))))) rd hS
abbrev s_times : Stmt := topS 24
theorem sc_times : FnScope ["one", "other"] ["one", "other"] (defScope s_times) := ⟨rfl, rfl, rfl, by decide +kernel, rfl, by decide +kernel, by decide +kernel⟩
theorem ok_times (t : Tx K mg) (F : Df K mg "times" s_times ["one", "other"]) (c_fraction : Cal P w K mg base CX0 2 "fraction" ["top", "below"] (toSp T (sp_fraction)))
    (len : ∀ ds mu Φ Ξ, (sp_times) ds mu Φ Ξ → ds.length = 2) (hS : ∀ ds mu Φ Ξ, (sp_times) ds mu Φ Ξ → (sp_times) ds mu Φ X0)
    (rd : ∀ ds mu Φ, (sp_times) ds mu Φ X0 → (w_times) (startD 2 ds) mu ⟨fun _ mu' => fin mu Φ .non mu', fin mu Φ, fun _ _ => False, fun _ _ => False⟩ X0) :
    Cal P w K mg base CX0 3 "times" ["one", "other"] (toSp T (sp_times)) :=
  cal0 F sc_times len (fun f cdv A outer s H hr => (dss_one (ds_ret (de_call c_fraction (hr.mono (by decide)) (by rfl) (da_cons (de_op op_mulA s_mul (de_ix ix_seq s_ix (de_var (pv 0)) de_int) (de_ix ix_seq s_ix (de_var (pv 1)) de_int)) (da_cons (de_op op_mulA s_mul (de_ix ix_seq s_ix (de_var (pv 0)) de_int) (de_ix ix_seq s_ix (de_var (pv 1)) de_int)) da_nil)))))) rd hS
abbrev s_inverse : Stmt := topS 25
theorem sc_inverse : FnScope ["one"] ["one"] (defScope s_inverse) := ⟨rfl, rfl, rfl, by decide +kernel, rfl, by decide +kernel, by decide +kernel⟩
theorem ok_inverse (t : Tx K mg) (F : Df K mg "inverse" s_inverse ["one"]) (c_fraction : Cal P w K mg base CX0 2 "fraction" ["top", "below"] (toSp T (sp_fraction)))
    (len : ∀ ds mu Φ Ξ, (sp_inverse) ds mu Φ Ξ → ds.length = 1) (hS : ∀ ds mu Φ Ξ, (sp_inverse) ds mu Φ Ξ → (sp_inverse) ds mu Φ X0)
    (rd : ∀ ds mu Φ, (sp_inverse) ds mu Φ X0 → (w_inverse) (startD 1 ds) mu ⟨fun _ mu' => fin mu Φ .non mu', fin mu Φ, fun _ _ => False, fun _ _ => False⟩ X0) :
    Cal P w K mg base CX0 3 "inverse" ["one"] (toSp T (sp_inverse)) :=
  cal0 F sc_inverse len (fun f cdv A outer s H hr => (dss_one (ds_ret (de_call c_fraction (hr.mono (by decide)) (by rfl) (da_cons (de_ix ix_seq s_ix (de_var (pv 0)) de_int) (da_cons (de_ix ix_seq s_ix (de_var (pv 0)) de_int) da_nil)))))) rd hS
abbrev s_power : Stmt := topS 26
theorem sc_power : FnScope ["one", "many", "found", "turn"] ["one", "many"] (defScope s_power) := ⟨rfl, rfl, rfl, by decide +kernel, rfl, by decide +kernel, by decide +kernel⟩
theorem ok_power (t : Tx K mg) (F : Df K mg "power" s_power ["one", "many"]) (c_times : Cal P w K mg base CX0 3 "times" ["one", "other"] (toSp T (sp_times)))
    (len : ∀ ds mu Φ Ξ, (sp_power) ds mu Φ Ξ → ds.length = 2) (hS : ∀ ds mu Φ Ξ, (sp_power) ds mu Φ Ξ → (sp_power) ds mu Φ X0)
    (rd : ∀ ds mu Φ, (sp_power) ds mu Φ X0 → (w_power) (startD 4 ds) mu ⟨fun _ mu' => fin mu Φ .non mu', fin mu Φ, fun _ _ => False, fun _ _ => False⟩ X0) :
    Cal P w K mg base CX0 4 "power" ["one", "many"] (toSp T (sp_power)) :=
  cal0 F sc_power len (fun f cdv A outer s H hr => (dss_cons (ds_set (ps_set (i := 2) sc_power.nd rfl (Or.inl rfl) (de_tup (da_cons de_int (da_cons de_int da_nil)))))
    (dss_cons (ds_for PassesOwn.never rfl (di_rng1 (by rfl) t.range (da_cons (de_var (pv 1)) da_nil)) (pg_name (i := 3) sc_power.nd rfl (Or.inl rfl)) sg_name (dss_one (ds_set (ps_set (i := 2) sc_power.nd rfl (Or.inl rfl) (de_call c_times (hr.mono (by decide)) (by rfl) (da_cons (de_var (pv 2)) (da_cons (de_var (pv 0)) da_nil)))))))
    (dss_one (ds_ret (de_var (pv 2))))))) rd hS
abbrev s_is_less : Stmt := topS 27
theorem sc_is_less : FnScope ["one", "other"] ["one", "other"] (defScope s_is_less) := ⟨rfl, rfl, rfl, by decide +kernel, rfl, by decide +kernel, by decide +kernel⟩
theorem ok_is_less (t : Tx K mg) (F : Df K mg "is_less" s_is_less ["one", "other"]) 
    (len : ∀ ds mu Φ Ξ, (sp_is_less) ds mu Φ Ξ → ds.length = 2) (hS : ∀ ds mu Φ Ξ, (sp_is_less) ds mu Φ Ξ → (sp_is_less) ds mu Φ X0)
    (rd : ∀ ds mu Φ, (sp_is_less) ds mu Φ X0 → (w_is_less) (startD 2 ds) mu ⟨fun _ mu' => fin mu Φ .non mu', fin mu Φ, fun _ _ => False, fun _ _ => False⟩ X0) :
    Cal P w K mg base CX0 1 "is_less" ["one", "other"] (toSp T (sp_is_less)) :=
  cal0 F sc_is_less len (fun f cdv A outer s H hr => (dss_one (ds_ret (de_cmp op_lt s_cmpI (de_op op_mulA s_mul (de_ix ix_seq s_ix (de_var (pv 0)) de_int) (de_ix ix_seq s_ix (de_var (pv 1)) de_int)) (de_op op_mulA s_mul (de_ix ix_seq s_ix (de_var (pv 1)) de_int) (de_ix ix_seq s_ix (de_var (pv 0)) de_int)) (nomark _))))) rd hS
abbrev s_is_fraction : Stmt := topS 28
theorem sc_is_fraction : FnScope ["value"] ["value"] (defScope s_is_fraction) := ⟨rfl, rfl, rfl, by decide +kernel, rfl, by decide +kernel, by decide +kernel⟩
theorem ok_is_fraction (t : Tx K mg) (F : Df K mg "is_fraction" s_is_fraction ["value"]) (c_divisor : Cal P w K mg base CX0 1 "divisor" ["one", "other"] (toSp T (sp_divisor))) (c_is_within : Cal P w K mg base CX0 1 "is_within" ["value", "low", "high"] (toSp T (sp_is_within)))
    (len : ∀ ds mu Φ Ξ, (sp_is_fraction) ds mu Φ Ξ → ds.length = 1) (hS : ∀ ds mu Φ Ξ, (sp_is_fraction) ds mu Φ Ξ → (sp_is_fraction) ds mu Φ X0)
    (rd : ∀ ds mu Φ, (sp_is_fraction) ds mu Φ X0 → (w_is_fraction) (startD 1 ds) mu ⟨fun _ mu' => fin mu Φ .non mu', fin mu Φ, fun _ _ => False, fun _ _ => False⟩ X0) :
    Cal P w K mg base CX0 2 "is_fraction" ["value"] (toSp T (sp_is_fraction)) :=
  cal0 F sc_is_fraction len (fun f cdv A outer s H hr => (dss_cons (ds_if (PW.pt (dw_or (dt_not (dt_val (de_B call_isi s_isi (by rfl) t.isinstance (by decide +kernel) (da_cons (de_var (pv 0)) (da_cons (de_bty (by rfl) t.tuple (by decide +kernel)) da_nil))))) (dw_or1 (dt_cmp (op_neD hr.units) s_ne (de_B call_lenA s_len (by rfl) t.len PySem.boot_len (da_cons (de_var (pv 0)) da_nil)) de_int (nomark _))))) (dss_one (ds_ret de_bl)) dss_nil)
    (dss_cons (ds_if (PW.pt (dw_or (dt_not (dt_val (de_call c_is_within (hr.mono (by decide)) (by rfl) (da_cons (de_ix ix_seq s_ix (de_var (pv 0)) de_int) (da_cons (de_op op_sub s_sub de_int (de_globI (by rfl) t.MOST_TOP)) (da_cons (de_globI (by rfl) t.MOST_TOP) da_nil)))))) (dw_or1 (dt_not (dt_val (de_call c_is_within (hr.mono (by decide)) (by rfl) (da_cons (de_ix ix_seq s_ix (de_var (pv 0)) de_int) (da_cons de_int (da_cons (de_globI (by rfl) t.MOST_BELOW) da_nil))))))))) (dss_one (ds_ret de_bl)) dss_nil)
    (dss_one (ds_ret (de_cmp (op_eqD hr.units) s_eq (de_call c_divisor (hr.mono (by decide)) (by rfl) (da_cons (de_ix ix_seq s_ix (de_var (pv 0)) de_int) (da_cons (de_ix ix_seq s_ix (de_var (pv 0)) de_int) da_nil))) de_int (nomark _))))))) rd hS
abbrev s_is_share : Stmt := topS 29
theorem sc_is_share : FnScope ["value"] ["value"] (defScope s_is_share) := ⟨rfl, rfl, rfl, by decide +kernel, rfl, by decide +kernel, by decide +kernel⟩
theorem ok_is_share (t : Tx K mg) (F : Df K mg "is_share" s_is_share ["value"]) (c_is_fraction : Cal P w K mg base CX0 2 "is_fraction" ["value"] (toSp T (sp_is_fraction)))
    (len : ∀ ds mu Φ Ξ, (sp_is_share) ds mu Φ Ξ → ds.length = 1) (hS : ∀ ds mu Φ Ξ, (sp_is_share) ds mu Φ Ξ → (sp_is_share) ds mu Φ X0)
    (rd : ∀ ds mu Φ, (sp_is_share) ds mu Φ X0 → (w_is_share) (startD 1 ds) mu ⟨fun _ mu' => fin mu Φ .non mu', fin mu Φ, fun _ _ => False, fun _ _ => False⟩ X0) :
    Cal P w K mg base CX0 3 "is_share" ["value"] (toSp T (sp_is_share)) :=
  cal0 F sc_is_share len (fun f cdv A outer s H hr => (dss_one (ds_ret (de_and (de_call c_is_fraction (hr.mono (by decide)) (by rfl) (da_cons (de_var (pv 0)) da_nil)) (de_one (de_chain op_lt op_le s_cmpI s_cmpI de_int (de_ix ix_seq s_ix (de_var (pv 0)) de_int) (de_ix ix_seq s_ix (de_var (pv 0)) de_int))))))) rd hS
abbrev s_is_head_pair : Stmt := topS 34
theorem sc_is_head_pair : FnScope ["value"] ["value"] (defScope s_is_head_pair) := ⟨rfl, rfl, rfl, by decide +kernel, rfl, by decide +kernel, by decide +kernel⟩
theorem ok_is_head_pair (t : Tx K mg) (F : Df K mg "is_head_pair" s_is_head_pair ["value"]) (c_is_share : Cal P w K mg base CX0 3 "is_share" ["value"] (toSp T (sp_is_share))) (c_is_fraction : Cal P w K mg base CX0 2 "is_fraction" ["value"] (toSp T (sp_is_fraction)))
    (len : ∀ ds mu Φ Ξ, (sp_is_head_pair) ds mu Φ Ξ → ds.length = 1) (hS : ∀ ds mu Φ Ξ, (sp_is_head_pair) ds mu Φ Ξ → (sp_is_head_pair) ds mu Φ X0)
    (rd : ∀ ds mu Φ, (sp_is_head_pair) ds mu Φ X0 → (w_is_head_pair) (startD 1 ds) mu ⟨fun _ mu' => fin mu Φ .non mu', fin mu Φ, fun _ _ => False, fun _ _ => False⟩ X0) :
    Cal P w K mg base CX0 4 "is_head_pair" ["value"] (toSp T (sp_is_head_pair)) :=
  cal0 F sc_is_head_pair len (fun f cdv A outer s H hr => (dss_one (ds_ret (de_and (de_B call_isi s_isi (by rfl) t.isinstance (by decide +kernel) (da_cons (de_var (pv 0)) (da_cons (de_bty (by rfl) t.tuple (by decide +kernel)) da_nil))) (de_and (de_cmp (op_eqD hr.units) s_eq (de_B call_lenA s_len (by rfl) t.len PySem.boot_len (da_cons (de_var (pv 0)) da_nil)) de_int (nomark _)) (de_and (de_call c_is_share (hr.mono (by decide)) (by rfl) (da_cons (de_ix ix_seq s_ix (de_var (pv 0)) de_int) da_nil)) (de_one (de_call c_is_fraction (hr.mono (by decide)) (by rfl) (da_cons (de_ix ix_seq s_ix (de_var (pv 0)) de_int) da_nil))))))))) rd hS
abbrev s_is_tail : Stmt := topS 35
theorem sc_is_tail : FnScope ["value"] ["value"] (defScope s_is_tail) := ⟨rfl, rfl, rfl, by decide +kernel, rfl, by decide +kernel, by decide +kernel⟩
theorem ok_is_tail (t : Tx K mg) (F : Df K mg "is_tail" s_is_tail ["value"]) (c_is_fraction : Cal P w K mg base CX0 2 "is_fraction" ["value"] (toSp T (sp_is_fraction))) (c_is_share : Cal P w K mg base CX0 3 "is_share" ["value"] (toSp T (sp_is_share)))
    (len : ∀ ds mu Φ Ξ, (sp_is_tail) ds mu Φ Ξ → ds.length = 1) (hS : ∀ ds mu Φ Ξ, (sp_is_tail) ds mu Φ Ξ → (sp_is_tail) ds mu Φ X0)
    (rd : ∀ ds mu Φ, (sp_is_tail) ds mu Φ X0 → (w_is_tail) (startD 1 ds) mu ⟨fun _ mu' => fin mu Φ .non mu', fin mu Φ, fun _ _ => False, fun _ _ => False⟩ X0) :
    Cal P w K mg base CX0 4 "is_tail" ["value"] (toSp T (sp_is_tail)) :=
  cal0 F sc_is_tail len (fun f cdv A outer s H hr => (dss_cons (ds_if (PW.pt (dw_or (dt_not (dt_val (de_B call_isi s_isi (by rfl) t.isinstance (by decide +kernel) (da_cons (de_var (pv 0)) (da_cons (de_bty (by rfl) t.tuple (by decide +kernel)) da_nil))))) (dw_or (dt_cmp (op_neD hr.units) s_ne (de_B call_lenA s_len (by rfl) t.len PySem.boot_len (da_cons (de_var (pv 0)) da_nil)) de_int (nomark _)) (dw_or (dt_not (dt_val (de_call c_is_share (hr.mono (by decide)) (by rfl) (da_cons (de_ix ix_seq s_ix (de_var (pv 0)) de_int) da_nil)))) (dw_or1 (dt_not (dt_val (de_call c_is_share (hr.mono (by decide)) (by rfl) (da_cons (de_ix ix_seq s_ix (de_var (pv 0)) de_int) da_nil))))))))) (dss_one (ds_ret de_bl)) dss_nil)
    (dss_one (ds_ret (de_and (de_call c_is_fraction (hr.mono (by decide)) (by rfl) (da_cons (de_ix ix_seq s_ix (de_var (pv 0)) de_int) da_nil)) (de_and (de_call c_is_fraction (hr.mono (by decide)) (by rfl) (da_cons (de_ix ix_seq s_ix (de_var (pv 0)) de_int) da_nil)) (de_one (de_cmp op_ge s_cmpI (de_ix ix_seq s_ix (de_ix ix_seq s_ix (de_var (pv 0)) de_int) de_int) de_int (nomark _))))))))) rd hS
abbrev s_is_plan_value : Stmt := topS 36
theorem sc_is_plan_value : FnScope ["value", "pair"] ["value"] (defScope s_is_plan_value) := ⟨rfl, rfl, rfl, by decide +kernel, rfl, by decide +kernel, by decide +kernel⟩
theorem ok_is_plan_value (t : Tx K mg) (F : Df K mg "is_plan_value" s_is_plan_value ["value"]) (c_is_head_pair : Cal P w K mg base CX0 4 "is_head_pair" ["value"] (toSp T (sp_is_head_pair))) (c_is_tail : Cal P w K mg base CX0 4 "is_tail" ["value"] (toSp T (sp_is_tail)))
    (len : ∀ ds mu Φ Ξ, (sp_is_plan_value) ds mu Φ Ξ → ds.length = 1) (hS : ∀ ds mu Φ Ξ, (sp_is_plan_value) ds mu Φ Ξ → (sp_is_plan_value) ds mu Φ X0)
    (rd : ∀ ds mu Φ, (sp_is_plan_value) ds mu Φ X0 → (w_is_plan_value) (startD 2 ds) mu ⟨fun _ mu' => fin mu Φ .non mu', fin mu Φ, fun _ _ => False, fun _ _ => False⟩ X0) :
    Cal P w K mg base CX0 5 "is_plan_value" ["value"] (toSp T (sp_is_plan_value)) :=
  cal0 F sc_is_plan_value len (fun f cdv A outer s H hr => (dss_cons (ds_if (PW.pt (dw_or (dt_not (dt_val (de_B call_isi s_isi (by rfl) t.isinstance (by decide +kernel) (da_cons (de_var (pv 0)) (da_cons (de_bty (by rfl) t.tuple (by decide +kernel)) da_nil))))) (dw_or (dt_cmp (op_neD hr.units) s_ne (de_B call_lenA s_len (by rfl) t.len PySem.boot_len (da_cons (de_var (pv 0)) da_nil)) de_int (nomark _)) (dw_or1 (dt_not (dt_val (de_B call_isi s_isi (by rfl) t.isinstance (by decide +kernel) (da_cons (de_ix ix_seq s_ix (de_var (pv 0)) de_int) (da_cons (de_bty (by rfl) t.tuple (by decide +kernel)) da_nil))))))))) (dss_one (ds_ret de_bl)) dss_nil)
    (dss_one (ds_ret (de_and (de_cmp op_le s_cmpI (de_B call_lenA s_len (by rfl) t.len PySem.boot_len (da_cons (de_ix ix_seq s_ix (de_var (pv 0)) de_int) da_nil)) (de_globI (by rfl) t.MOST_HEAD) (nomark _)) (de_and (de_B (cr_all rfl) s_all (by rfl) t.all (by decide +kernel) (da_cons (de_lc (pe_lc (own := [("pair", 1)]) (by rfl) sc_is_plan_value.nd (di_tup (de_ix ix_seq s_ix (de_var (pv 0)) de_int)) (blkOk_by (own := [("pair", 1)]) (N := ["value", "pair"]) (sc := defScope s_is_plan_value) (by decide +kernel)) (fun _ _ _ _ _ => pg_name (i := 1) sc_is_plan_value.nd rfl (Or.inl rfl)) (fun _ _ _ _ _ => dts_nil) (fun _ _ _ _ _ => (de_call c_is_head_pair (hr.mono (by decide)) (by rfl) (da_cons (de_var (pv 1)) da_nil)))) (lcg_name (by decide))) da_nil)) (de_one (de_call c_is_tail (hr.mono (by decide)) (by rfl) (da_cons (de_ix ix_seq s_ix (de_var (pv 0)) de_int) da_nil))))))))) rd hS
abbrev s_need_plan : Stmt := topS 37
theorem sc_need_plan : FnScope ["value"] ["value"] (defScope s_need_plan) := ⟨rfl, rfl, rfl, by decide +kernel, rfl, by decide +kernel, by decide +kernel⟩
theorem ok_need_plan (t : Tx K mg) (F : Df K mg "need_plan" s_need_plan ["value"]) (c_is_plan_value : Cal P w K mg base CX0 5 "is_plan_value" ["value"] (toSp T (sp_is_plan_value)))
    (len : ∀ ds mu Φ Ξ, (sp_need_plan mg) ds mu Φ Ξ → ds.length = 1)
    (rd : ∀ ds mu Φ Ξ, (sp_need_plan mg) ds mu Φ Ξ → (w_need_plan mg) (startD 1 ds) mu ⟨fun _ mu' => fin mu Φ .non mu', fin mu Φ, fun _ _ => False, fun _ _ => False⟩ (finX mu Ξ)) :
    Cal P w K mg base (L2N.CX P w) 6 "need_plan" ["value"] (toSp T (sp_need_plan mg)) :=
  calX F sc_need_plan len (fun f cdv A outer s H E hr => (dss_one (ds_if (dt_not (dt_val (de_call c_is_plan_value (hr.mono (by decide)) (by rfl) (da_cons (de_var (pv 0)) da_nil)))) (dss_one (ds_raise t.InvalidPlan rfl tkC (by rfl))) dss_nil))) rd
abbrev s_need_level : Stmt := topS 38
theorem sc_need_level : FnScope ["value"] ["value"] (defScope s_need_level) := ⟨rfl, rfl, rfl, by decide +kernel, rfl, by decide +kernel, by decide +kernel⟩
theorem ok_need_level (t : Tx K mg) (F : Df K mg "need_level" s_need_level ["value"]) (c_is_within : Cal P w K mg base CX0 1 "is_within" ["value", "low", "high"] (toSp T (sp_is_within)))
    (len : ∀ ds mu Φ Ξ, (sp_need_level mg) ds mu Φ Ξ → ds.length = 1)
    (rd : ∀ ds mu Φ Ξ, (sp_need_level mg) ds mu Φ Ξ → (w_need_level mg) (startD 1 ds) mu ⟨fun _ mu' => fin mu Φ .non mu', fin mu Φ, fun _ _ => False, fun _ _ => False⟩ (finX mu Ξ)) :
    Cal P w K mg base (L2N.CX P w) 2 "need_level" ["value"] (toSp T (sp_need_level mg)) :=
  calX F sc_need_level len (fun f cdv A outer s H E hr => (dss_one (ds_if (dt_not (dt_val (de_call c_is_within (hr.mono (by decide)) (by rfl) (da_cons (de_var (pv 0)) (da_cons de_int (da_cons (de_globI (by rfl) t.MOST_LEVEL) da_nil)))))) (dss_one (ds_raise t.InvalidLevel rfl tkC (by rfl))) dss_nil))) rd
abbrev s_need_count : Stmt := topS 39
theorem sc_need_count : FnScope ["value", "most"] ["value", "most"] (defScope s_need_count) := ⟨rfl, rfl, rfl, by decide +kernel, rfl, by decide +kernel, by decide +kernel⟩
theorem ok_need_count (t : Tx K mg) (F : Df K mg "need_count" s_need_count ["value", "most"]) (c_is_within : Cal P w K mg base CX0 1 "is_within" ["value", "low", "high"] (toSp T (sp_is_within)))
    (len : ∀ ds mu Φ Ξ, (sp_need_count mg) ds mu Φ Ξ → ds.length = 2)
    (rd : ∀ ds mu Φ Ξ, (sp_need_count mg) ds mu Φ Ξ → (w_need_count mg) (startD 2 ds) mu ⟨fun _ mu' => fin mu Φ .non mu', fin mu Φ, fun _ _ => False, fun _ _ => False⟩ (finX mu Ξ)) :
    Cal P w K mg base (L2N.CX P w) 2 "need_count" ["value", "most"] (toSp T (sp_need_count mg)) :=
  calX F sc_need_count len (fun f cdv A outer s H E hr => (dss_one (ds_if (dt_not (dt_val (de_call c_is_within (hr.mono (by decide)) (by rfl) (da_cons (de_var (pv 0)) (da_cons de_int (da_cons (de_var (pv 1)) da_nil)))))) (dss_one (ds_raise t.InvalidCount rfl tkC (by rfl))) dss_nil))) rd
abbrev s_step_of : Stmt := topS 40
theorem sc_step_of : FnScope ["plan", "level", "head", "tail", "far"] ["plan", "level"] (defScope s_step_of) := ⟨rfl, rfl, rfl, by decide +kernel, rfl, by decide +kernel, by decide +kernel⟩
theorem ok_step_of (t : Tx K mg) (F : Df K mg "step_of" s_step_of ["plan", "level"]) (c_times : Cal P w K mg base CX0 3 "times" ["one", "other"] (toSp T (sp_times))) (c_power : Cal P w K mg base CX0 4 "power" ["one", "many"] (toSp T (sp_power)))
    (len : ∀ ds mu Φ Ξ, (sp_step_of) ds mu Φ Ξ → ds.length = 2) (hS : ∀ ds mu Φ Ξ, (sp_step_of) ds mu Φ Ξ → (sp_step_of) ds mu Φ X0)
    (rd : ∀ ds mu Φ, (sp_step_of) ds mu Φ X0 → (w_step_of) (startD 5 ds) mu ⟨fun _ mu' => fin mu Φ .non mu', fin mu Φ, fun _ _ => False, fun _ _ => False⟩ X0) :
    Cal P w K mg base CX0 5 "step_of" ["plan", "level"] (toSp T (sp_step_of)) :=
  cal0 F sc_step_of len (fun f cdv A outer s H hr => (dss_cons (ds_asg (ps_asg (de_var (pv 0)) (pg_tup rfl (pgs_cons (pg_name (i := 2) sc_step_of.nd rfl (Or.inl rfl)) (pgs_cons (pg_name (i := 3) sc_step_of.nd rfl (Or.inl rfl)) pgs_nil)))) (sg_tup (sg_cons sg_name (sg_cons sg_name sg_nil))))
    (dss_cons (ds_if (dt_cmp op_lt s_cmpI (de_var (pv 1)) (de_B call_lenA s_len (by rfl) t.len PySem.boot_len (da_cons (de_var (pv 2)) da_nil)) (nomark _)) (dss_one (ds_ret (de_ix ix_seq s_ix (de_var (pv 2)) (de_var (pv 1))))) dss_nil)
    (dss_cons (ds_set (ps_set (i := 4) sc_step_of.nd rfl (Or.inl rfl) (de_op op_sub s_sub (de_var (pv 1)) (de_B call_lenA s_len (by rfl) t.len PySem.boot_len (da_cons (de_var (pv 2)) da_nil)))))
    (dss_one (ds_ret (de_tup (da_cons (de_call c_times (hr.mono (by decide)) (by rfl) (da_cons (de_ix ix_seq s_ix (de_var (pv 3)) de_int) (da_cons (de_call c_power (hr.mono (by decide)) (by rfl) (da_cons (de_ix ix_seq s_ix (de_var (pv 3)) de_int) (da_cons (de_var (pv 4)) da_nil))) da_nil))) (da_cons (de_call c_times (hr.mono (by decide)) (by rfl) (da_cons (de_ix ix_seq s_ix (de_var (pv 3)) de_int) (da_cons (de_call c_power (hr.mono (by decide)) (by rfl) (da_cons (de_ix ix_seq s_ix (de_var (pv 3)) de_int) (da_cons (de_var (pv 4)) da_nil))) da_nil))) da_nil))))))))) rd hS
abbrev s_is_falling : Stmt := topS 41
theorem sc_is_falling : FnScope ["plan", "some", "level", "one", "other"] ["plan"] (defScope s_is_falling) := ⟨rfl, rfl, rfl, by decide +kernel, rfl, by decide +kernel, by decide +kernel⟩
theorem ok_is_falling (t : Tx K mg) (F : Df K mg "is_falling" s_is_falling ["plan"]) (c_is_less : Cal P w K mg base CX0 1 "is_less" ["one", "other"] (toSp T (sp_is_less))) (c_step_of : Cal P w K mg base CX0 5 "step_of" ["plan", "level"] (toSp T (sp_step_of)))
    (len : ∀ ds mu Φ Ξ, (sp_is_falling) ds mu Φ Ξ → ds.length = 1) (hS : ∀ ds mu Φ Ξ, (sp_is_falling) ds mu Φ Ξ → (sp_is_falling) ds mu Φ X0)
    (rd : ∀ ds mu Φ, (sp_is_falling) ds mu Φ X0 → (w_is_falling) (startD 5 ds) mu ⟨fun _ mu' => fin mu Φ .non mu', fin mu Φ, fun _ _ => False, fun _ _ => False⟩ X0) :
    Cal P w K mg base CX0 6 "is_falling" ["plan"] (toSp T (sp_is_falling)) :=
  cal0 F sc_is_falling len (fun f cdv A outer s H hr => (dss_cons (ds_lc (ps_setLc (i := 1) (own := [("level", 2)]) (by rfl) sc_is_falling.nd rfl rfl (sw_true rfl rfl rfl (by decide +kernel)) (di_rng1 (by rfl) t.range (da_cons (de_op op_addA s_add (de_B call_lenA s_len (by rfl) t.len PySem.boot_len (da_cons (de_ix ix_seq s_ix (de_var (pv 0)) de_int) da_nil)) de_int) da_nil)) (blkOk_by (own := [("level", 2)]) (N := ["plan", "some", "level", "one", "other"]) (sc := defScope s_is_falling) (by decide +kernel)) (fun _ _ _ _ _ => pg_name (i := 2) sc_is_falling.nd rfl (Or.inl rfl)) (fun _ _ _ _ _ => dts_nil) (fun _ _ _ _ _ => (de_ix ix_seq s_ix (de_call c_step_of (hr.mono (by decide)) (by rfl) (da_cons (de_var (pv 0)) (da_cons (de_var (pv 2)) da_nil))) de_int))) (lcg_name (by decide)))
    (dss_one (ds_ret (de_not (de_B (cr_any rfl) s_any (by rfl) t.any (by decide +kernel) (da_cons (de_lc (pe_lc (own := [("one", 3), ("other", 4)]) (by rfl) sc_is_falling.nd (di_zip (by rfl) t.zip (da_cons (de_var (pv 1)) (da_cons (de_slice sl_any s_sl (de_var (pv 1)) (do_some de_int) do_none) da_nil))) (blkOk_by (own := [("one", 3), ("other", 4)]) (N := ["plan", "some", "level", "one", "other"]) (sc := defScope s_is_falling) (by decide +kernel)) (fun _ _ _ _ _ => pg_tup rfl (pgs_cons (pg_name (i := 3) sc_is_falling.nd rfl (Or.inl rfl)) (pgs_cons (pg_name (i := 4) sc_is_falling.nd rfl (Or.inl rfl)) pgs_nil))) (fun _ _ _ _ _ => dts_nil) (fun _ _ _ _ _ => (de_call c_is_less (hr.mono (by decide)) (by rfl) (da_cons (de_var (pv 3)) (da_cons (de_var (pv 4)) da_nil))))) (lcg_pair (by decide) (by decide))) da_nil))))))) rd hS
abbrev s_led_on : Stmt := topS 43
theorem sc_led_on : FnScope ["plan", "now", "found", "level", "share", "up"] ["plan", "now"] (defScope s_led_on) := ⟨rfl, rfl, rfl, by decide +kernel, rfl, by decide +kernel, by decide +kernel⟩
theorem ok_led_on (t : Tx K mg) (F : Df K mg "led_on" s_led_on ["plan", "now"]) (c_plus : Cal P w K mg base CX0 3 "plus" ["one", "other"] (toSp T (sp_plus))) (c_minus : Cal P w K mg base CX0 3 "minus" ["one", "other"] (toSp T (sp_minus))) (c_times : Cal P w K mg base CX0 3 "times" ["one", "other"] (toSp T (sp_times))) (c_step_of : Cal P w K mg base CX0 5 "step_of" ["plan", "level"] (toSp T (sp_step_of)))
    (len : ∀ ds mu Φ Ξ, (sp_led_on) ds mu Φ Ξ → ds.length = 2) (hS : ∀ ds mu Φ Ξ, (sp_led_on) ds mu Φ Ξ → (sp_led_on) ds mu Φ X0)
    (rd : ∀ ds mu Φ, (sp_led_on) ds mu Φ X0 → (w_led_on) (startD 6 ds) mu ⟨fun _ mu' => fin mu Φ .non mu', fin mu Φ, fun _ _ => False, fun _ _ => False⟩ X0) :
    Cal P w K mg base CX0 6 "led_on" ["plan", "now"] (toSp T (sp_led_on)) :=
  cal0 F sc_led_on len (fun f cdv A outer s H hr => (dss_cons (ds_set (ps_set (i := 2) sc_led_on.nd rfl (Or.inl rfl) (de_op op_rep s_mulM (de_lst (da_cons (de_tup (da_cons de_int (da_cons de_int da_nil))) da_nil)) (de_op op_addA s_add (de_B call_lenA s_len (by rfl) t.len PySem.boot_len (da_cons (de_var (pv 1)) da_nil)) de_int))))
    (dss_cons (ds_for PassesOwn.never rfl (di_enum (by rfl) t.enumerate (da_cons (de_var (pv 1)) da_nil)) (pg_tup rfl (pgs_cons (pg_name (i := 3) sc_led_on.nd rfl (Or.inl rfl)) (pgs_cons (pg_name (i := 4) sc_led_on.nd rfl (Or.inl rfl)) pgs_nil))) (sg_tup (sg_cons sg_name (sg_cons sg_name sg_nil))) (dss_cons (ds_set (ps_set (i := 5) sc_led_on.nd rfl (Or.inl rfl) (de_call c_times (hr.mono (by decide)) (by rfl) (da_cons (de_var (pv 4)) (da_cons (de_ix ix_seq s_ix (de_call c_step_of (hr.mono (by decide)) (by rfl) (da_cons (de_var (pv 0)) (da_cons (de_var (pv 3)) da_nil))) de_int) da_nil)))))
    (dss_cons (ds_setI (ps_asg (de_call c_plus (hr.mono (by decide)) (by rfl) (da_cons (de_ix ix_seq s_ix (de_var (pv 2)) (de_var (pv 3))) (da_cons (de_call c_minus (hr.mono (by decide)) (by rfl) (da_cons (de_var (pv 4)) (da_cons (de_var (pv 5)) da_nil))) da_nil))) (pg_sub (de_var (pv 2)) (de_var (pv 3)) set_list)))
    (dss_one (ds_setI (ps_asg (de_call c_plus (hr.mono (by decide)) (by rfl) (da_cons (de_ix ix_seq s_ix (de_var (pv 2)) (de_op op_addA s_add (de_var (pv 3)) de_int)) (da_cons (de_var (pv 5)) da_nil))) (pg_sub (de_var (pv 2)) (de_op op_addA s_add (de_var (pv 3)) de_int) set_list)))))))
    (dss_one (ds_frz 2 (ds_ret (de_var (pv 2)))))))) rd hS
abbrev s_chances_by : Stmt := topS 44
theorem sc_chances_by : FnScope ["plan", "now", "count", "turn"] ["plan", "now", "count"] (defScope s_chances_by) := ⟨rfl, rfl, rfl, by decide +kernel, rfl, by decide +kernel, by decide +kernel⟩
theorem ok_chances_by (t : Tx K mg) (F : Df K mg "chances_by" s_chances_by ["plan", "now", "count"]) (c_led_on : Cal P w K mg base CX0 6 "led_on" ["plan", "now"] (toSp T (sp_led_on)))
    (len : ∀ ds mu Φ Ξ, (sp_chances_by) ds mu Φ Ξ → ds.length = 3) (hS : ∀ ds mu Φ Ξ, (sp_chances_by) ds mu Φ Ξ → (sp_chances_by) ds mu Φ X0)
    (rd : ∀ ds mu Φ, (sp_chances_by) ds mu Φ X0 → (w_chances_by) (startD 4 ds) mu ⟨fun _ mu' => fin mu Φ .non mu', fin mu Φ, fun _ _ => False, fun _ _ => False⟩ X0) :
    Cal P w K mg base CX0 7 "chances_by" ["plan", "now", "count"] (toSp T (sp_chances_by)) :=
  cal0 F sc_chances_by len (fun f cdv A outer s H hr => (dss_cons (ds_for PassesOwn.never rfl (di_rng1 (by rfl) t.range (da_cons (de_var (pv 2)) da_nil)) (pg_name (i := 3) sc_chances_by.nd rfl (Or.inl rfl)) sg_name (dss_one (ds_set (ps_set (i := 1) sc_chances_by.nd rfl (Or.inl rfl) (de_call c_led_on (hr.mono (by decide)) (by rfl) (da_cons (de_var (pv 0)) (da_cons (de_var (pv 1)) da_nil)))))))
    (dss_one (ds_ret (de_var (pv 1)))))) rd hS
abbrev s_chances : Stmt := topS 45
theorem sc_chances : FnScope ["plan", "count"] ["plan", "count"] (defScope s_chances) := ⟨rfl, rfl, rfl, by decide +kernel, rfl, by decide +kernel, by decide +kernel⟩
theorem ok_chances (t : Tx K mg) (F : Df K mg "chances" s_chances ["plan", "count"]) (c_chances_by : Cal P w K mg base CX0 7 "chances_by" ["plan", "now", "count"] (toSp T (sp_chances_by))) (c_need_count : Cal P w K mg base (L2N.CX P w) 2 "need_count" ["value", "most"] (toSp T (sp_need_count mg))) (c_need_plan : Cal P w K mg base (L2N.CX P w) 6 "need_plan" ["value"] (toSp T (sp_need_plan mg)))
    (len : ∀ ds mu Φ Ξ, (sp_chances mg) ds mu Φ Ξ → ds.length = 2)
    (rd : ∀ ds mu Φ Ξ, (sp_chances mg) ds mu Φ Ξ → (w_chances mg) (startD 2 ds) mu ⟨fun _ mu' => fin mu Φ .non mu', fin mu Φ, fun _ _ => False, fun _ _ => False⟩ (finX mu Ξ)) :
    Cal P w K mg base (L2N.CX P w) 8 "chances" ["plan", "count"] (toSp T (sp_chances mg)) :=
  calX F sc_chances len (fun f cdv A outer s H E hr => (dss_cons (ds_expr (de_callX c_need_plan (hr.mono (by decide)) (by rfl) hxC (da_cons (de_var (pv 0)) da_nil)))
    (dss_cons (ds_expr (de_callX c_need_count (hr.mono (by decide)) (by rfl) hxC (da_cons (de_var (pv 1)) (da_cons (de_globI (by rfl) t.MOST_COUNT) da_nil))))
    (dss_one (ds_ret (de_BT call_tuple_of s_tuple (by rfl) t.tuple (by decide +kernel) (da_cons (de_call c_chances_by (hr.mono (by decide)) (by rfl) (da_cons (de_var (pv 0)) (da_cons (de_lst (da_cons (de_tup (da_cons de_int (da_cons de_int da_nil))) da_nil)) (da_cons (de_var (pv 1)) da_nil)))) da_nil))))))) rd
abbrev s_merged_by : Stmt := topS 48
theorem sc_merged_by : FnScope ["plan", "first", "second", "high", "low", "now", "lower", "less", "later", "at", "share", "up"] ["plan", "first", "second"] (defScope s_merged_by) := ⟨rfl, rfl, rfl, by decide +kernel, rfl, by decide +kernel, by decide +kernel⟩
theorem ok_merged_by (t : Tx K mg) (F : Df K mg "merged_by" s_merged_by ["plan", "first", "second"]) (c_plus : Cal P w K mg base CX0 3 "plus" ["one", "other"] (toSp T (sp_plus))) (c_minus : Cal P w K mg base CX0 3 "minus" ["one", "other"] (toSp T (sp_minus))) (c_times : Cal P w K mg base CX0 3 "times" ["one", "other"] (toSp T (sp_times))) (c_step_of : Cal P w K mg base CX0 5 "step_of" ["plan", "level"] (toSp T (sp_step_of))) (c_inverse : Cal P w K mg base CX0 3 "inverse" ["one"] (toSp T (sp_inverse)))
    (len : ∀ ds mu Φ Ξ, (sp_merged_by) ds mu Φ Ξ → ds.length = 3) (hS : ∀ ds mu Φ Ξ, (sp_merged_by) ds mu Φ Ξ → (sp_merged_by) ds mu Φ X0)
    (rd : ∀ ds mu Φ, (sp_merged_by) ds mu Φ X0 → (w_merged_by) (startD 12 ds) mu ⟨fun _ mu' => fin mu Φ .non mu', fin mu Φ, fun _ _ => False, fun _ _ => False⟩ X0) :
    Cal P w K mg base CX0 6 "merged_by" ["plan", "first", "second"] (toSp T (sp_merged_by)) :=
  cal0 F sc_merged_by len (fun f cdv A outer s H hr => (dss_cons (ds_par (ps_par (i := 3) (j := 4) (by rfl) sc_merged_by.nd rfl rfl (by decide) rfl rfl (da_cons (de_B (call_max2 rfl) s_max (by rfl) t.max (by decide +kernel) (da_cons (de_var (pv 1)) (da_cons (de_var (pv 2)) da_nil))) (da_cons (de_B (call_min2 rfl) s_min (by rfl) t.min (by decide +kernel) (da_cons (de_var (pv 1)) (da_cons (de_var (pv 2)) da_nil))) da_nil)) (by rfl)))
    (dss_cons (ds_set (ps_set (i := 5) sc_merged_by.nd rfl (Or.inl rfl) (de_lst (da_cons (de_tup (da_cons de_int (da_cons de_int da_nil))) da_nil))))
    (dss_cons (ds_for PassesOwn.never rfl (di_rng1 (by rfl) t.range (da_cons (de_var (pv 4)) da_nil)) (pg_name (i := 6) sc_merged_by.nd rfl (Or.inl rfl)) sg_name (dss_cons (ds_set (ps_set (i := 7) sc_merged_by.nd rfl (Or.inl rfl) (de_call c_inverse (hr.mono (by decide)) (by rfl) (da_cons (de_ix ix_seq s_ix (de_call c_step_of (hr.mono (by decide)) (by rfl) (da_cons (de_var (pv 0)) (da_cons (de_var (pv 6)) da_nil))) de_int) da_nil))))
    (dss_cons (ds_set (ps_set (i := 8) sc_merged_by.nd rfl (Or.inl rfl) (de_op op_rep s_mulM (de_lst (da_cons (de_tup (da_cons de_int (da_cons de_int da_nil))) da_nil)) (de_op op_addA s_add (de_B call_lenA s_len (by rfl) t.len PySem.boot_len (da_cons (de_var (pv 5)) da_nil)) de_int))))
    (dss_cons (ds_for PassesOwn.never rfl (di_enum (by rfl) t.enumerate (da_cons (de_var (pv 5)) da_nil)) (pg_tup rfl (pgs_cons (pg_name (i := 9) sc_merged_by.nd rfl (Or.inl rfl)) (pgs_cons (pg_name (i := 10) sc_merged_by.nd rfl (Or.inl rfl)) pgs_nil))) (sg_tup (sg_cons sg_name (sg_cons sg_name sg_nil))) (dss_cons (ds_set (ps_set (i := 11) sc_merged_by.nd rfl (Or.inl rfl) (de_call c_times (hr.mono (by decide)) (by rfl) (da_cons (de_var (pv 10)) (da_cons (de_call c_times (hr.mono (by decide)) (by rfl) (da_cons (de_ix ix_seq s_ix (de_call c_step_of (hr.mono (by decide)) (by rfl) (da_cons (de_var (pv 0)) (da_cons (de_op op_addA s_add (de_var (pv 3)) (de_var (pv 9))) da_nil))) de_int) (da_cons (de_var (pv 7)) da_nil))) da_nil)))))
    (dss_cons (ds_setI (ps_asg (de_call c_plus (hr.mono (by decide)) (by rfl) (da_cons (de_ix ix_seq s_ix (de_var (pv 8)) (de_var (pv 9))) (da_cons (de_call c_minus (hr.mono (by decide)) (by rfl) (da_cons (de_var (pv 10)) (da_cons (de_var (pv 11)) da_nil))) da_nil))) (pg_sub (de_var (pv 8)) (de_var (pv 9)) set_list)))
    (dss_one (ds_setI (ps_asg (de_call c_plus (hr.mono (by decide)) (by rfl) (da_cons (de_ix ix_seq s_ix (de_var (pv 8)) (de_op op_addA s_add (de_var (pv 9)) de_int)) (da_cons (de_var (pv 11)) da_nil))) (pg_sub (de_var (pv 8)) (de_op op_addA s_add (de_var (pv 9)) de_int) set_list)))))))
    (dss_one (ds_frz 8 (ds_set (ps_set (i := 5) sc_merged_by.nd rfl (Or.inl rfl) (de_var (pv 8))))))))))
    (dss_one (ds_ret (de_var (pv 5)))))))) rd hS
abbrev s_need_falling : Stmt := topS 49
theorem sc_need_falling : FnScope ["plan"] ["plan"] (defScope s_need_falling) := ⟨rfl, rfl, rfl, by decide +kernel, rfl, by decide +kernel, by decide +kernel⟩
theorem ok_need_falling (t : Tx K mg) (F : Df K mg "need_falling" s_need_falling ["plan"]) (c_is_falling : Cal P w K mg base CX0 6 "is_falling" ["plan"] (toSp T (sp_is_falling))) (c_need_plan : Cal P w K mg base (L2N.CX P w) 6 "need_plan" ["value"] (toSp T (sp_need_plan mg)))
    (len : ∀ ds mu Φ Ξ, (sp_need_falling mg) ds mu Φ Ξ → ds.length = 1)
    (rd : ∀ ds mu Φ Ξ, (sp_need_falling mg) ds mu Φ Ξ → (w_need_falling mg) (startD 1 ds) mu ⟨fun _ mu' => fin mu Φ .non mu', fin mu Φ, fun _ _ => False, fun _ _ => False⟩ (finX mu Ξ)) :
    Cal P w K mg base (L2N.CX P w) 7 "need_falling" ["plan"] (toSp T (sp_need_falling mg)) :=
  calX F sc_need_falling len (fun f cdv A outer s H E hr => (dss_cons (ds_expr (de_callX c_need_plan (hr.mono (by decide)) (by rfl) hxC (da_cons (de_var (pv 0)) da_nil)))
    (dss_one (ds_if (dt_not (dt_val (de_call c_is_falling (hr.mono (by decide)) (by rfl) (da_cons (de_var (pv 0)) da_nil)))) (dss_one (ds_raise t.NotFalling rfl tkC (by rfl))) dss_nil)))) rd
abbrev s_merged : Stmt := topS 50
theorem sc_merged : FnScope ["plan", "first", "second"] ["plan", "first", "second"] (defScope s_merged) := ⟨rfl, rfl, rfl, by decide +kernel, rfl, by decide +kernel, by decide +kernel⟩
theorem ok_merged (t : Tx K mg) (F : Df K mg "merged" s_merged ["plan", "first", "second"]) (c_merged_by : Cal P w K mg base CX0 6 "merged_by" ["plan", "first", "second"] (toSp T (sp_merged_by))) (c_need_level : Cal P w K mg base (L2N.CX P w) 2 "need_level" ["value"] (toSp T (sp_need_level mg))) (c_need_falling : Cal P w K mg base (L2N.CX P w) 7 "need_falling" ["plan"] (toSp T (sp_need_falling mg)))
    (len : ∀ ds mu Φ Ξ, (sp_merged mg) ds mu Φ Ξ → ds.length = 3)
    (rd : ∀ ds mu Φ Ξ, (sp_merged mg) ds mu Φ Ξ → (w_merged mg) (startD 3 ds) mu ⟨fun _ mu' => fin mu Φ .non mu', fin mu Φ, fun _ _ => False, fun _ _ => False⟩ (finX mu Ξ)) :
    Cal P w K mg base (L2N.CX P w) 8 "merged" ["plan", "first", "second"] (toSp T (sp_merged mg)) :=
  calX F sc_merged len (fun f cdv A outer s H E hr => (dss_cons (ds_expr (de_callX c_need_falling (hr.mono (by decide)) (by rfl) hxC (da_cons (de_var (pv 0)) da_nil)))
    (dss_cons (ds_expr (de_callX c_need_level (hr.mono (by decide)) (by rfl) hxC (da_cons (de_var (pv 1)) da_nil)))
    (dss_cons (ds_expr (de_callX c_need_level (hr.mono (by decide)) (by rfl) hxC (da_cons (de_var (pv 2)) da_nil)))
    (dss_one (ds_ret (de_BT call_tuple_of s_tuple (by rfl) t.tuple (by decide +kernel) (da_cons (de_call c_merged_by (hr.mono (by decide)) (by rfl) (da_cons (de_var (pv 0)) (da_cons (de_var (pv 1)) (da_cons (de_var (pv 2)) da_nil)))) da_nil)))))))) rd
abbrev s_merged_chances : Stmt := topS 51
theorem sc_merged_chances : FnScope ["plan", "few", "more", "found", "first", "one", "second", "other", "at", "share", "level"] ["plan", "few", "more"] (defScope s_merged_chances) := ⟨rfl, rfl, rfl, by decide +kernel, rfl, by decide +kernel, by decide +kernel⟩
theorem ok_merged_chances (t : Tx K mg) (F : Df K mg "merged_chances" s_merged_chances ["plan", "few", "more"]) (c_chances_by : Cal P w K mg base CX0 7 "chances_by" ["plan", "now", "count"] (toSp T (sp_chances_by))) (c_merged_by : Cal P w K mg base CX0 6 "merged_by" ["plan", "first", "second"] (toSp T (sp_merged_by))) (c_plus : Cal P w K mg base CX0 3 "plus" ["one", "other"] (toSp T (sp_plus))) (c_times : Cal P w K mg base CX0 3 "times" ["one", "other"] (toSp T (sp_times))) (c_need_count : Cal P w K mg base (L2N.CX P w) 2 "need_count" ["value", "most"] (toSp T (sp_need_count mg))) (c_need_falling : Cal P w K mg base (L2N.CX P w) 7 "need_falling" ["plan"] (toSp T (sp_need_falling mg)))
    (len : ∀ ds mu Φ Ξ, (sp_merged_chances mg) ds mu Φ Ξ → ds.length = 3)
    (rd : ∀ ds mu Φ Ξ, (sp_merged_chances mg) ds mu Φ Ξ → (w_merged_chances mg) (startD 11 ds) mu ⟨fun _ mu' => fin mu Φ .non mu', fin mu Φ, fun _ _ => False, fun _ _ => False⟩ (finX mu Ξ)) :
    Cal P w K mg base (L2N.CX P w) 8 "merged_chances" ["plan", "few", "more"] (toSp T (sp_merged_chances mg)) :=
  calX F sc_merged_chances len (fun f cdv A outer s H E hr => (dss_cons (ds_expr (de_callX c_need_falling (hr.mono (by decide)) (by rfl) hxC (da_cons (de_var (pv 0)) da_nil)))
    (dss_cons (ds_expr (de_callX c_need_count (hr.mono (by decide)) (by rfl) hxC (da_cons (de_var (pv 1)) (da_cons (de_globI (by rfl) t.MOST_APART) da_nil))))
    (dss_cons (ds_expr (de_callX c_need_count (hr.mono (by decide)) (by rfl) hxC (da_cons (de_var (pv 2)) (da_cons (de_globI (by rfl) t.MOST_APART) da_nil))))
    (dss_cons (ds_set (ps_set (i := 3) sc_merged_chances.nd rfl (Or.inl rfl) (de_op op_rep s_mulM (de_lst (da_cons (de_tup (da_cons de_int (da_cons de_int da_nil))) da_nil)) (de_op op_addA s_add (de_op op_addA s_add (de_var (pv 1)) (de_var (pv 2))) de_int))))
    (dss_cons (ds_for PassesOwn.leaving rfl (di_enum (by rfl) t.enumerate (da_cons (de_call c_chances_by (hr.mono (by decide)) (by rfl) (da_cons (de_var (pv 0)) (da_cons (de_lst (da_cons (de_tup (da_cons de_int (da_cons de_int da_nil))) da_nil)) (da_cons (de_var (pv 1)) da_nil)))) da_nil)) (pg_tup rfl (pgs_cons (pg_name (i := 4) sc_merged_chances.nd rfl (Or.inl rfl)) (pgs_cons (pg_name (i := 5) sc_merged_chances.nd rfl (Or.inl rfl)) pgs_nil))) (sg_tup (sg_cons sg_name (sg_cons sg_name sg_nil))) (dss_one (ds_for PassesOwn.leaving rfl (di_enum (by rfl) t.enumerate (da_cons (de_call c_chances_by (hr.mono (by decide)) (by rfl) (da_cons (de_var (pv 0)) (da_cons (de_lst (da_cons (de_tup (da_cons de_int (da_cons de_int da_nil))) da_nil)) (da_cons (de_var (pv 2)) da_nil)))) da_nil)) (pg_tup rfl (pgs_cons (pg_name (i := 6) sc_merged_chances.nd rfl (Or.inl rfl)) (pgs_cons (pg_name (i := 7) sc_merged_chances.nd rfl (Or.inl rfl)) pgs_nil))) (sg_tup (sg_cons sg_name (sg_cons sg_name sg_nil))) (dss_one (ds_for PassesOwn.leaving rfl (di_enum (by rfl) t.enumerate (da_cons (de_call c_merged_by (hr.mono (by decide)) (by rfl) (da_cons (de_var (pv 0)) (da_cons (de_var (pv 4)) (da_cons (de_var (pv 6)) da_nil)))) da_nil)) (pg_tup rfl (pgs_cons (pg_name (i := 8) sc_merged_chances.nd rfl (Or.inl rfl)) (pgs_cons (pg_name (i := 9) sc_merged_chances.nd rfl (Or.inl rfl)) pgs_nil))) (sg_tup (sg_cons sg_name (sg_cons sg_name sg_nil))) (dss_cons (ds_set (ps_set (i := 10) sc_merged_chances.nd rfl (Or.inl rfl) (de_op op_addA s_add (de_B (call_max2 rfl) s_max (by rfl) t.max (by decide +kernel) (da_cons (de_var (pv 4)) (da_cons (de_var (pv 6)) da_nil))) (de_var (pv 8)))))
    (dss_one (ds_setI (ps_asg (de_call c_plus (hr.mono (by decide)) (by rfl) (da_cons (de_ix ix_seq s_ix (de_var (pv 3)) (de_var (pv 10))) (da_cons (de_call c_times (hr.mono (by decide)) (by rfl) (da_cons (de_call c_times (hr.mono (by decide)) (by rfl) (da_cons (de_var (pv 5)) (da_cons (de_var (pv 7)) da_nil))) (da_cons (de_var (pv 9)) da_nil))) da_nil))) (pg_sub (de_var (pv 3)) (de_var (pv 10)) set_list))))))))))
    (dss_one (ds_ret (de_BT call_tuple_of s_tuple (by rfl) t.tuple (by decide +kernel) (da_cons (de_var (pv 3)) da_nil)))))))))) rd
abbrev s_law_deck : Stmt := topS 53
theorem sc_law_deck : FnScope ["cell", "turn"] ["cell", "turn"] (defScope s_law_deck) := ⟨rfl, rfl, rfl, by decide +kernel, rfl, by decide +kernel, by decide +kernel⟩
theorem ok_law_deck (t : Tx K mg) (F : Df K mg "_law_deck" s_law_deck ["cell", "turn"]) 
    (len : ∀ ds mu Φ Ξ, (sp_law_deck) ds mu Φ Ξ → ds.length = 2) (hS : ∀ ds mu Φ Ξ, (sp_law_deck) ds mu Φ Ξ → (sp_law_deck) ds mu Φ X0)
    (rd : ∀ ds mu Φ, (sp_law_deck) ds mu Φ X0 → (w_law_deck) (startD 2 ds) mu ⟨fun _ mu' => fin mu Φ .non mu', fin mu Φ, fun _ _ => False, fun _ _ => False⟩ X0) :
    Cal P w K mg base CX0 1 "_law_deck" ["cell", "turn"] (toSp T (sp_law_deck)) :=
  cal0 F sc_law_deck len (fun f cdv A outer s H hr => (dss_cons (ds_if (dt_cmp op_ge s_cmpI (de_var (pv 0)) (de_op op_pow s_pow de_int de_int) (nomark _)) (dss_one (ds_ret (de_lstM (da_cons (de_op op_sub s_sub (de_var (pv 0)) (de_op op_pow s_pow de_int de_int)) (da_cons (de_op op_modN s_mod (de_var (pv 0)) de_int) (da_cons (de_var (pv 1)) da_nil)))))) dss_nil)
    (dss_one (ds_ret (de_lstM (da_cons de_int (da_cons (de_op op_modN s_mod (de_var (pv 0)) de_int) (da_cons (de_var (pv 1)) da_nil)))))))) rd hS
abbrev s_law_pick : Stmt := topS 54
theorem sc_law_pick : FnScope ["deck", "size", "found", "number"] ["deck", "size"] (defScope s_law_pick) := ⟨rfl, rfl, rfl, by decide +kernel, rfl, by decide +kernel, by decide +kernel⟩
theorem ok_law_pick (t : Tx K mg) (F : Df K mg "_law_pick" s_law_pick ["deck", "size"]) 
    (len : ∀ ds mu Φ Ξ, (sp_law_pick) ds mu Φ Ξ → ds.length = 2) (hS : ∀ ds mu Φ Ξ, (sp_law_pick) ds mu Φ Ξ → (sp_law_pick) ds mu Φ X0)
    (rd : ∀ ds mu Φ, (sp_law_pick) ds mu Φ X0 → (w_law_pick) (startD 4 ds) mu ⟨fun _ mu' => fin mu Φ .non mu', fin mu Φ, fun _ _ => False, fun _ _ => False⟩ X0) :
    Cal P w K mg base CX0 1 "_law_pick" ["deck", "size"] (toSp T (sp_law_pick)) :=
  cal0 F sc_law_pick len (fun f cdv A outer s H hr => (dss_cons (ds_if (dt_cmp op_gt s_cmpI (de_ix ix_seq s_ix (de_var (pv 0)) de_int) de_int (nomark _)) (dss_cons (ds_set (ps_set (i := 2) sc_law_pick.nd rfl (Or.inl rfl) (de_op op_modN s_mod (de_BT call_int1 s_int (by rfl) t.int (by decide +kernel) (da_cons (de_ix ix_seq s_ix (de_var (pv 0)) de_int) da_nil)) (de_var (pv 1)))))
    (dss_cons (ds_setI (ps_asg (de_op op_fdivW s_fdiv (de_ix ix_seq s_ix (de_var (pv 0)) de_int) (de_var (pv 1))) (pg_sub (de_var (pv 0)) de_int set_list)))
    (dss_one (ds_ret (de_var (pv 2)))))) dss_nil)
    (dss_cons (ds_setI (ps_asg (de_op op_addA s_add (de_ix ix_seq s_ix (de_var (pv 0)) de_int) de_int) (pg_sub (de_var (pv 0)) de_int set_list)))
    (dss_cons (ds_set (ps_set (i := 3) sc_law_pick.nd rfl (Or.inl rfl) (de_op op_modN s_mod (de_op op_pow s_pow (de_op op_addA s_add (de_ix ix_seq s_ix (de_var (pv 0)) de_int) (de_op op_mulA s_mul de_int (de_ix ix_seq s_ix (de_var (pv 0)) de_int))) de_int) de_int)))
    (dss_cons (ds_set (ps_set (i := 2) sc_law_pick.nd rfl (Or.inl rfl) (de_op op_fdivW s_fdiv (de_op op_modN s_mod (de_op op_pow s_pow (de_op op_addA s_add (de_var (pv 3)) (de_op op_mulA s_mul de_int (de_ix ix_seq s_ix (de_var (pv 0)) de_int))) de_int) de_int) de_int)))
    (dss_one (ds_ret (de_op op_modN s_mod (de_BT call_int1 s_int (by rfl) t.int (by decide +kernel) (da_cons (de_var (pv 2)) da_nil)) (de_var (pv 1)))))))))) rd hS
abbrev s_law_one : Stmt := topS 55
theorem sc_law_one : FnScope ["deck", "some"] ["deck", "some"] (defScope s_law_one) := ⟨rfl, rfl, rfl, by decide +kernel, rfl, by decide +kernel, by decide +kernel⟩
theorem ok_law_one (t : Tx K mg) (F : Df K mg "_law_one" s_law_one ["deck", "some"]) (c_law_pick : Cal P w K mg base CX0 1 "_law_pick" ["deck", "size"] (toSp T (sp_law_pick)))
    (len : ∀ ds mu Φ Ξ, (sp_law_one) ds mu Φ Ξ → ds.length = 2) (hS : ∀ ds mu Φ Ξ, (sp_law_one) ds mu Φ Ξ → (sp_law_one) ds mu Φ X0)
    (rd : ∀ ds mu Φ, (sp_law_one) ds mu Φ X0 → (w_law_one) (startD 2 ds) mu ⟨fun _ mu' => fin mu Φ .non mu', fin mu Φ, fun _ _ => False, fun _ _ => False⟩ X0) :
    Cal P w K mg base CX0 2 "_law_one" ["deck", "some"] (toSp T (sp_law_one)) :=
  cal0 F sc_law_one len (fun f cdv A outer s H hr => (dss_one (ds_ret (de_ix ix_seq s_ix (de_var (pv 1)) (de_call c_law_pick (hr.mono (by decide)) (by rfl) (da_cons (de_var (pv 0)) (da_cons (de_B call_lenA s_len (by rfl) t.len PySem.boot_len (da_cons (de_var (pv 1)) da_nil)) da_nil))))))) rd hS
abbrev s_law_sort : Stmt := topS 56
theorem sc_law_sort : FnScope ["thing"] ["thing"] (defScope s_law_sort) := ⟨rfl, rfl, rfl, by decide +kernel, rfl, by decide +kernel, by decide +kernel⟩
theorem ok_law_sort (t : Tx K mg) (F : Df K mg "_law_sort" s_law_sort ["thing"]) 
    (len : ∀ ds mu Φ Ξ, (sp_law_sort) ds mu Φ Ξ → ds.length = 1) (hS : ∀ ds mu Φ Ξ, (sp_law_sort) ds mu Φ Ξ → (sp_law_sort) ds mu Φ X0)
    (rd : ∀ ds mu Φ, (sp_law_sort) ds mu Φ X0 → (w_law_sort) (startD 1 ds) mu ⟨fun _ mu' => fin mu Φ .non mu', fin mu Φ, fun _ _ => False, fun _ _ => False⟩ X0) :
    Cal P w K mg base CX0 1 "_law_sort" ["thing"] (toSp T (sp_law_sort)) :=
  cal0 F sc_law_sort len (fun f cdv A outer s H hr => (dss_cons (ds_if (dt_val (de_B call_isi s_isi (by rfl) t.isinstance (by decide +kernel) (da_cons (de_var (pv 0)) (da_cons (de_bty (by rfl) t.bool (by decide +kernel)) da_nil)))) (dss_one (ds_ret de_int)) dss_nil)
    (dss_cons (ds_if (dt_val (de_B call_isi s_isi (by rfl) t.isinstance (by decide +kernel) (da_cons (de_var (pv 0)) (da_cons (de_bty (by rfl) t.int (by decide +kernel)) da_nil)))) (dss_one (ds_ret de_int)) dss_nil)
    (dss_cons (ds_if (dt_val (de_B call_isi s_isi (by rfl) t.isinstance (by decide +kernel) (da_cons (de_var (pv 0)) (da_cons (de_bty (by rfl) t.str (by decide +kernel)) da_nil)))) (dss_one (ds_ret de_int)) dss_nil)
    (dss_cons (ds_if (dt_val (de_B call_isi s_isi (by rfl) t.isinstance (by decide +kernel) (da_cons (de_var (pv 0)) (da_cons (de_bty (by rfl) t.list (by decide +kernel)) da_nil)))) (dss_one (ds_ret de_int)) dss_nil)
    (dss_one (ds_ret (de_if (dt_val (de_B call_isi s_isi (by rfl) t.isinstance (by decide +kernel) (da_cons (de_var (pv 0)) (da_cons (de_bty (by rfl) t.tuple (by decide +kernel)) da_nil)))) de_int de_int)))))))) rd hS
abbrev s_law_same : Stmt := topS 57
theorem sc_law_same : FnScope ["told", "due", "k", "part"] ["told", "due"] (defScope s_law_same) := ⟨rfl, rfl, rfl, by decide +kernel, rfl, by decide +kernel, by decide +kernel⟩
theorem ok_law_same {n j : Nat} (hj : 1 ≤ j) (t : Tx K mg) (F : Df K mg "_law_same" s_law_same ["told", "due"]) (c_law_sort : Cal P w K mg base CX0 1 "_law_sort" ["thing"] (toSp T (sp_law_sort))) (c_law_same : Cal P w K mg base CX0 j "_law_same" ["told", "due"] (toSp T (sp_law_same n)))
    (len : ∀ ds mu Φ Ξ, (sp_law_same (n + 1)) ds mu Φ Ξ → ds.length = 2) (hS : ∀ ds mu Φ Ξ, (sp_law_same (n + 1)) ds mu Φ Ξ → (sp_law_same (n + 1)) ds mu Φ X0)
    (rd : ∀ ds mu Φ, (sp_law_same (n + 1)) ds mu Φ X0 → (w_law_same n) (startD 4 ds) mu ⟨fun _ mu' => fin mu Φ .non mu', fin mu Φ, fun _ _ => False, fun _ _ => False⟩ X0) :
    Cal P w K mg base CX0 (j + 1) "_law_same" ["told", "due"] (toSp T (sp_law_same (n + 1))) :=
  cal0 F sc_law_same len (fun f cdv A outer s H hr => (dss_cons (ds_if (dt_cmp (op_neD hr.units) s_ne (de_call c_law_sort (hr.mono hj) (by rfl) (da_cons (de_var (pv 0)) da_nil)) (de_call c_law_sort (hr.mono hj) (by rfl) (da_cons (de_var (pv 1)) da_nil)) (nomark _)) (dss_one (ds_ret de_bl)) dss_nil)
    (dss_cons (ds_if (PW.pt (dw_and (dt_cmp op_gt s_cmpI (de_call c_law_sort (hr.mono hj) (by rfl) (da_cons (de_var (pv 0)) da_nil)) de_int (nomark _)) (dw_and1 (dt_cmp op_lt s_cmpI (de_call c_law_sort (hr.mono hj) (by rfl) (da_cons (de_var (pv 0)) da_nil)) de_int (nomark _))))) (dss_cons (ds_if (dt_cmp (op_neD hr.units) s_ne (de_B call_lenA s_len (by rfl) t.len PySem.boot_len (da_cons (de_var (pv 0)) da_nil)) (de_B call_lenA s_len (by rfl) t.len PySem.boot_len (da_cons (de_var (pv 1)) da_nil)) (nomark _)) (dss_one (ds_ret de_bl)) dss_nil)
    (dss_one (ds_ret (de_cmp (op_eqD hr.units) s_eq (de_lc (pe_lc (own := [("k", 2), ("part", 3)]) (by rfl) sc_law_same.nd (di_enumA (by rfl) t.enumerate (da_cons (de_var (pv 0)) da_nil)) (blkOk_by (own := [("k", 2), ("part", 3)]) (N := ["told", "due", "k", "part"]) (sc := defScope s_law_same) (by decide +kernel)) (fun _ _ _ _ _ => pg_tup rfl (pgs_cons (pg_name (i := 2) sc_law_same.nd rfl (Or.inl rfl)) (pgs_cons (pg_name (i := 3) sc_law_same.nd rfl (Or.inl rfl)) pgs_nil))) (fun _ _ _ _ _ => dts_one (dt_not (dt_val (de_call c_law_same (hr.mono (Nat.le_refl j)) (by rfl) (da_cons (de_var (pv 3)) (da_cons (de_ix ix_seq s_ix (de_var (pv 1)) (de_var (pv 2))) da_nil)))))) (fun _ _ _ _ _ => (de_var (pv 2)))) (lcg_pair (by decide) (by decide))) (de_lst da_nil) (nomark _))))) dss_nil)
    (dss_one (ds_ret (de_cmp (op_eqD hr.units) s_eq (de_var (pv 0)) (de_var (pv 1)) (nomark _))))))) rd hS
abbrev s_law_kin : Stmt := topS 58
theorem sc_law_kin : FnScope ["e", "sorts", "labels", "label", "good"] ["e"] (defScope s_law_kin) := ⟨rfl, rfl, rfl, by decide +kernel, rfl, by decide +kernel, by decide +kernel⟩
theorem okb_law_kin (t : Tx K mg) {D0 : Addr} {p : Addr × Obj} {f : Addr} {cdv : Value} {A : Around} {outer : List Env} {s : Shared} {H : Hp} (hC : ExcC K D0) (hz : Zc (.ref D0) none p.2) (hf : ∃ vs, p.2.data = .fields vs) (h1 : L2H.Hot1 A p) :
    PSs (L2H.cxH CX0 P w K mg base ["e", "sorts", "labels", "label", "good"] "_law_kin" (defScope s_law_kin) f cdv A outer s H E0 p).nox (defBody s_law_kin) (tOfS T E0 (w_law_kin K mg (.ref D0) p.1)) := by
  have hot : L2H.HotC (L2H.cxH CX0 P w K mg base ["e", "sorts", "labels", "label", "good"] "_law_kin" (defScope s_law_kin) f cdv A outer s H E0 p).nox := ⟨p, h1, List.mem_cons_self⟩
  exact (dss_cons (ds_set (ps_set (i := 1) sc_law_kin.nd rfl (Or.inl rfl) (de_lstM (da_cons (de_B (call_isEP hC (by exact List.mem_cons_self) hz hf) s_isE (by rfl) t.isinstance (by decide +kernel) (da_cons (de_var (pv 0)) (da_cons (de_cls (by rfl) (let ⟨C, h, _⟩ := t.InvalidPlan.ex; ⟨C, h⟩)) da_nil))) (da_cons (de_B (call_isEP hC (by exact List.mem_cons_self) hz hf) s_isE (by rfl) t.isinstance (by decide +kernel) (da_cons (de_var (pv 0)) (da_cons (de_cls (by rfl) (let ⟨C, h, _⟩ := t.InvalidLevel.ex; ⟨C, h⟩)) da_nil))) (da_cons (de_B (call_isEP hC (by exact List.mem_cons_self) hz hf) s_isE (by rfl) t.isinstance (by decide +kernel) (da_cons (de_var (pv 0)) (da_cons (de_cls (by rfl) (let ⟨C, h, _⟩ := t.InvalidCount.ex; ⟨C, h⟩)) da_nil))) da_nil))))))
    (dss_cons (ds_frz 1 (ds_set (ps_set (i := 1) sc_law_kin.nd rfl (Or.inl rfl) (de_op op_catLK s_addM (de_var (pv 1)) (de_lst (da_cons (de_B (call_isEP hC (by exact List.mem_cons_self) hz hf) s_isE (by rfl) t.isinstance (by decide +kernel) (da_cons (de_var (pv 0)) (da_cons (de_cls (by rfl) t.InvalidLog) da_nil))) (da_cons (de_B (call_isEP hC (by exact List.mem_cons_self) hz hf) s_isE (by rfl) t.isinstance (by decide +kernel) (da_cons (de_var (pv 0)) (da_cons (de_cls (by rfl) t.InvalidText) da_nil))) da_nil)))))))
    (dss_cons (ds_frz 1 (ds_set (ps_set (i := 1) sc_law_kin.nd rfl (Or.inl rfl) (de_op op_catLK s_addM (de_var (pv 1)) (de_lst (da_cons (de_B (call_isEP hC (by exact List.mem_cons_self) hz hf) s_isE (by rfl) t.isinstance (by decide +kernel) (da_cons (de_var (pv 0)) (da_cons (de_cls (by rfl) t.InvalidFactor) da_nil))) (da_cons (de_B (call_isEP hC (by exact List.mem_cons_self) hz hf) s_isE (by rfl) t.isinstance (by decide +kernel) (da_cons (de_var (pv 0)) (da_cons (de_cls (by rfl) t.InvalidPair) da_nil))) da_nil)))))))
    (dss_cons (ds_frz 1 (ds_set (ps_set (i := 1) sc_law_kin.nd rfl (Or.inl rfl) (de_op op_catLK s_addM (de_var (pv 1)) (de_lst (da_cons (de_B (call_isEP hC (by exact List.mem_cons_self) hz hf) s_isE (by rfl) t.isinstance (by decide +kernel) (da_cons (de_var (pv 0)) (da_cons (de_cls (by rfl) t.InvalidDraw) da_nil))) (da_cons (de_B (call_isEP hC (by exact List.mem_cons_self) hz hf) s_isE (by rfl) t.isinstance (by decide +kernel) (da_cons (de_var (pv 0)) (da_cons (de_cls (by rfl) t.InvalidDraws) da_nil))) da_nil)))))))
    (dss_cons (ds_frz 1 (ds_set (ps_set (i := 1) sc_law_kin.nd rfl (Or.inl rfl) (de_op op_catLK s_addM (de_var (pv 1)) (de_lst (da_cons (de_B (call_isEP hC (by exact List.mem_cons_self) hz hf) s_isE (by rfl) t.isinstance (by decide +kernel) (da_cons (de_var (pv 0)) (da_cons (de_cls (by rfl) t.NotSmooth) da_nil))) (da_cons (de_B (call_isEP hC (by exact List.mem_cons_self) hz hf) s_isE (by rfl) t.isinstance (by decide +kernel) (da_cons (de_var (pv 0)) (da_cons (de_cls (by rfl) (let ⟨C, h, _⟩ := t.NotFalling.ex; ⟨C, h⟩)) da_nil))) (da_cons (de_B (call_isEP hC (by exact List.mem_cons_self) hz hf) s_isE (by rfl) t.isinstance (by decide +kernel) (da_cons (de_var (pv 0)) (da_cons (de_cls (by rfl) t.Unlike) da_nil))) da_nil))))))))
    (dss_cons (ds_frz 1 (ds_set (ps_set (i := 1) sc_law_kin.nd rfl (Or.inl rfl) (de_op op_catLK s_addM (de_var (pv 1)) (de_lst (da_cons (de_B (call_isEP hC (by exact List.mem_cons_self) hz hf) s_isE (by rfl) t.isinstance (by decide +kernel) (da_cons (de_var (pv 0)) (da_cons (de_cls (by rfl) t.NothingToUndo) da_nil))) (da_cons (de_B (call_isEP hC (by exact List.mem_cons_self) hz hf) s_isE (by rfl) t.isinstance (by decide +kernel) (da_cons (de_var (pv 0)) (da_cons (de_cls (by rfl) t.TooMany) da_nil))) da_nil)))))))
    (dss_cons (ds_app (ps_expr (pe_bm PySem.F.plainAttrs_list PySem.F.slot_list_append PySem.F.type_list_append mt_append (de_var (pv 1)) (pa_cons (de_B (call_isEP hC (by exact List.mem_cons_self) hz hf) s_isE (by rfl) t.isinstance (by decide +kernel) (da_cons (de_var (pv 0)) (da_cons (de_bty (by rfl) t.ValueError (by decide +kernel)) da_nil))) pa_nil))))
    (dss_cons (ds_set (ps_set (i := 2) sc_law_kin.nd rfl (Or.inl rfl) de_str))
    (dss_one (ds_frz 1 (ds_ret (de_join de_str (de_lc (pe_lcS (own := [("label", 3), ("good", 4)]) hot sc_law_kin.nd (di_zipS (by rfl) t.zip (da_cons (de_split (de_var (pv 2)) de_str) (da_cons (de_var (pv 1)) da_nil))) (blkOk_by (own := [("label", 3), ("good", 4)]) (N := ["e", "sorts", "labels", "label", "good"]) (sc := defScope s_law_kin) (by decide +kernel)) (fun _ _ _ _ _ hB => pg_tupS hB (pgs_cons (pg_name (i := 3) sc_law_kin.nd rfl (Or.inl rfl)) (pgs_cons (pg_name (i := 4) sc_law_kin.nd rfl (Or.inl rfl)) pgs_nil))) (fun _ _ _ _ _ => dts_one (dt_truth (de_var (pv 4)))) (fun _ _ _ _ _ => (de_var (pv 3)))) (lcg_pair (by decide) (by decide)))))))))))))))
abbrev s_law_known : Stmt := topS 60
theorem sc_law_known : FnScope ["one", "a", "b"] [] (defScope s_law_known) := ⟨rfl, rfl, rfl, by decide +kernel, rfl, by decide +kernel, by decide +kernel⟩
theorem ok_law_known (t : Tx K mg) (F : Df K mg "_law_known" s_law_known []) 
    (len : ∀ ds mu Φ Ξ, (sp_law_known) ds mu Φ Ξ → ds.length = 0) (hS : ∀ ds mu Φ Ξ, (sp_law_known) ds mu Φ Ξ → (sp_law_known) ds mu Φ X0)
    (rd : ∀ ds mu Φ, (sp_law_known) ds mu Φ X0 → (w_law_known) (startD 3 ds) mu ⟨fun _ mu' => fin mu Φ .non mu', fin mu Φ, fun _ _ => False, fun _ _ => False⟩ X0) :
    Cal P w K mg base CX0 1 "_law_known" [] (toSp T (sp_law_known)) :=
  cal0 F sc_law_known len (fun f cdv A outer s H hr => (dss_cons (ds_set (ps_set (i := 0) sc_law_known.nd rfl (Or.inl rfl) (de_tup (da_cons de_int (da_cons de_int da_nil)))))
    (dss_cons (ds_set (ps_set (i := 1) sc_law_known.nd rfl (Or.inl rfl) (de_tup (da_cons (de_tup da_nil) (da_cons (de_tup (da_cons (de_var (pv 0)) (da_cons (de_tup (da_cons de_int (da_cons de_int da_nil))) (da_cons (de_var (pv 0)) (da_cons (de_tup (da_cons de_int (da_cons de_int da_nil))) da_nil))))) da_nil)))))
    (dss_cons (ds_set (ps_set (i := 2) sc_law_known.nd rfl (Or.inl rfl) (de_tup (da_cons (de_tup (da_cons (de_tup (da_cons (de_var (pv 0)) (da_cons (de_var (pv 0)) da_nil))) (da_cons (de_tup (da_cons (de_var (pv 0)) (da_cons (de_var (pv 0)) da_nil))) da_nil))) (da_cons (de_tup (da_cons (de_tup (da_cons de_int (da_cons de_int da_nil))) (da_cons (de_var (pv 0)) (da_cons (de_tup (da_cons de_int (da_cons de_int da_nil))) (da_cons (de_var (pv 0)) da_nil))))) da_nil)))))
    (dss_one (ds_ret (de_tup (da_cons (de_var (pv 1)) (da_cons (de_var (pv 2)) (da_cons (de_tup (da_cons (de_tup (da_cons (de_tup (da_cons (de_tup (da_cons de_int (da_cons de_int da_nil))) (da_cons (de_tup (da_cons de_int (da_cons de_int da_nil))) da_nil))) da_nil)) (da_cons (de_tup (da_cons (de_tup (da_cons de_int (da_cons de_int da_nil))) (da_cons (de_tup (da_cons de_int (da_cons de_int da_nil))) (da_cons (de_tup (da_cons de_int (da_cons de_int da_nil))) (da_cons (de_var (pv 0)) da_nil))))) da_nil))) da_nil)))))))))) rd hS
abbrev s_law_shared : Stmt := topS 61
theorem sc_law_shared : FnScope ["one", "other"] ["one", "other"] (defScope s_law_shared) := ⟨rfl, rfl, rfl, by decide +kernel, rfl, by decide +kernel, by decide +kernel⟩
theorem ok_law_shared (t : Tx K mg) (F : Df K mg "_law_shared" s_law_shared ["one", "other"]) 
    (len : ∀ ds mu Φ Ξ, (sp_law_shared) ds mu Φ Ξ → ds.length = 2) (hS : ∀ ds mu Φ Ξ, (sp_law_shared) ds mu Φ Ξ → (sp_law_shared) ds mu Φ X0)
    (rd : ∀ ds mu Φ, (sp_law_shared) ds mu Φ X0 → (w_law_shared) (startD 2 ds) mu ⟨fun _ mu' => fin mu Φ .non mu', fin mu Φ, fun _ _ => False, fun _ _ => False⟩ X0) :
    Cal P w K mg base CX0 1 "_law_shared" ["one", "other"] (toSp T (sp_law_shared)) :=
  cal0 F sc_law_shared len (fun f cdv A outer s H hr => (dss_cons (ds_while PassesOwn.never (dt_cmp (op_neD hr.units) s_ne (de_var (pv 1)) de_int (nomark _)) (dss_one (ds_par (ps_par (i := 0) (j := 1) (by rfl) sc_law_shared.nd rfl rfl (by decide) rfl rfl (da_cons (de_var (pv 1)) (da_cons (de_op op_modN s_mod (de_var (pv 0)) (de_var (pv 1))) da_nil)) (by rfl)))))
    (dss_one (ds_ret (de_B call_abs s_abs (by rfl) t.abs (by decide +kernel) (da_cons (de_var (pv 0)) da_nil)))))) rd hS
abbrev s_law_low : Stmt := topS 62
theorem sc_law_low : FnScope ["top", "below", "many"] ["top", "below"] (defScope s_law_low) := ⟨rfl, rfl, rfl, by decide +kernel, rfl, by decide +kernel, by decide +kernel⟩
theorem ok_law_low (t : Tx K mg) (F : Df K mg "_law_low" s_law_low ["top", "below"]) (c_law_shared : Cal P w K mg base CX0 1 "_law_shared" ["one", "other"] (toSp T (sp_law_shared)))
    (len : ∀ ds mu Φ Ξ, (sp_law_low) ds mu Φ Ξ → ds.length = 2) (hS : ∀ ds mu Φ Ξ, (sp_law_low) ds mu Φ Ξ → (sp_law_low) ds mu Φ X0)
    (rd : ∀ ds mu Φ, (sp_law_low) ds mu Φ X0 → (w_law_low) (startD 3 ds) mu ⟨fun _ mu' => fin mu Φ .non mu', fin mu Φ, fun _ _ => False, fun _ _ => False⟩ X0) :
    Cal P w K mg base CX0 2 "_law_low" ["top", "below"] (toSp T (sp_law_low)) :=
  cal0 F sc_law_low len (fun f cdv A outer s H hr => (dss_cons (ds_set (ps_set (i := 2) sc_law_low.nd rfl (Or.inl rfl) (de_call c_law_shared (hr.mono (by decide)) (by rfl) (da_cons (de_var (pv 0)) (da_cons (de_var (pv 1)) da_nil)))))
    (dss_one (ds_ret (de_tup (da_cons (de_op op_fdivW s_fdiv (de_var (pv 0)) (de_var (pv 2))) (da_cons (de_op op_fdivW s_fdiv (de_var (pv 1)) (de_var (pv 2))) da_nil))))))) rd hS
abbrev s_law_sum : Stmt := topS 63
theorem sc_law_sum : FnScope ["rows", "top", "below", "one", "other"] ["rows"] (defScope s_law_sum) := ⟨rfl, rfl, rfl, by decide +kernel, rfl, by decide +kernel, by decide +kernel⟩
theorem ok_law_sum (t : Tx K mg) (F : Df K mg "_law_sum" s_law_sum ["rows"]) (c_law_low : Cal P w K mg base CX0 2 "_law_low" ["top", "below"] (toSp T (sp_law_low)))
    (len : ∀ ds mu Φ Ξ, (sp_law_sum) ds mu Φ Ξ → ds.length = 1) (hS : ∀ ds mu Φ Ξ, (sp_law_sum) ds mu Φ Ξ → (sp_law_sum) ds mu Φ X0)
    (rd : ∀ ds mu Φ, (sp_law_sum) ds mu Φ X0 → (w_law_sum) (startD 5 ds) mu ⟨fun _ mu' => fin mu Φ .non mu', fin mu Φ, fun _ _ => False, fun _ _ => False⟩ X0) :
    Cal P w K mg base CX0 3 "_law_sum" ["rows"] (toSp T (sp_law_sum)) :=
  cal0 F sc_law_sum len (fun f cdv A outer s H hr => (dss_cons (ds_asg (ps_asg (de_tup (da_cons de_int (da_cons de_int da_nil))) (pg_tup rfl (pgs_cons (pg_name (i := 1) sc_law_sum.nd rfl (Or.inl rfl)) (pgs_cons (pg_name (i := 2) sc_law_sum.nd rfl (Or.inl rfl)) pgs_nil)))) (sg_tup (sg_cons sg_name (sg_cons sg_name sg_nil))))
    (dss_cons (ds_for PassesOwn.never rfl (di_any (de_var (pv 0))) (pg_tup rfl (pgs_cons (pg_name (i := 3) sc_law_sum.nd rfl (Or.inl rfl)) (pgs_cons (pg_name (i := 4) sc_law_sum.nd rfl (Or.inl rfl)) pgs_nil))) (sg_tup (sg_cons sg_name (sg_cons sg_name sg_nil))) (dss_one (ds_asg (ps_asg (de_call c_law_low (hr.mono (by decide)) (by rfl) (da_cons (de_op op_addA s_add (de_op op_mulA s_mul (de_var (pv 1)) (de_var (pv 4))) (de_op op_mulA s_mul (de_var (pv 3)) (de_var (pv 2)))) (da_cons (de_op op_mulA s_mul (de_var (pv 2)) (de_var (pv 4))) da_nil))) (pg_tup rfl (pgs_cons (pg_name (i := 1) sc_law_sum.nd rfl (Or.inl rfl)) (pgs_cons (pg_name (i := 2) sc_law_sum.nd rfl (Or.inl rfl)) pgs_nil)))) (sg_tup (sg_cons sg_name (sg_cons sg_name sg_nil))))))
    (dss_one (ds_ret (de_tup (da_cons (de_var (pv 1)) (da_cons (de_var (pv 2)) da_nil)))))))) rd hS
abbrev s_law_times : Stmt := topS 64
theorem sc_law_times : FnScope ["one", "other"] ["one", "other"] (defScope s_law_times) := ⟨rfl, rfl, rfl, by decide +kernel, rfl, by decide +kernel, by decide +kernel⟩
theorem ok_law_times (t : Tx K mg) (F : Df K mg "_law_times" s_law_times ["one", "other"]) (c_law_low : Cal P w K mg base CX0 2 "_law_low" ["top", "below"] (toSp T (sp_law_low)))
    (len : ∀ ds mu Φ Ξ, (sp_law_times) ds mu Φ Ξ → ds.length = 2) (hS : ∀ ds mu Φ Ξ, (sp_law_times) ds mu Φ Ξ → (sp_law_times) ds mu Φ X0)
    (rd : ∀ ds mu Φ, (sp_law_times) ds mu Φ X0 → (w_law_times) (startD 2 ds) mu ⟨fun _ mu' => fin mu Φ .non mu', fin mu Φ, fun _ _ => False, fun _ _ => False⟩ X0) :
    Cal P w K mg base CX0 3 "_law_times" ["one", "other"] (toSp T (sp_law_times)) :=
  cal0 F sc_law_times len (fun f cdv A outer s H hr => (dss_one (ds_ret (de_call c_law_low (hr.mono (by decide)) (by rfl) (da_cons (de_op op_mulA s_mul (de_ix ix_seq s_ix (de_var (pv 0)) de_int) (de_ix ix_seq s_ix (de_var (pv 1)) de_int)) (da_cons (de_op op_mulA s_mul (de_ix ix_seq s_ix (de_var (pv 0)) de_int) (de_ix ix_seq s_ix (de_var (pv 1)) de_int)) da_nil)))))) rd hS
abbrev s_law_share : Stmt := topS 65
theorem sc_law_share : FnScope ["deck", "most", "below"] ["deck", "most"] (defScope s_law_share) := ⟨rfl, rfl, rfl, by decide +kernel, rfl, by decide +kernel, by decide +kernel⟩
theorem ok_law_share (t : Tx K mg) (F : Df K mg "_law_share" s_law_share ["deck", "most"]) (c_law_low : Cal P w K mg base CX0 2 "_law_low" ["top", "below"] (toSp T (sp_law_low))) (c_law_pick : Cal P w K mg base CX0 1 "_law_pick" ["deck", "size"] (toSp T (sp_law_pick)))
    (len : ∀ ds mu Φ Ξ, (sp_law_share) ds mu Φ Ξ → ds.length = 2) (hS : ∀ ds mu Φ Ξ, (sp_law_share) ds mu Φ Ξ → (sp_law_share) ds mu Φ X0)
    (rd : ∀ ds mu Φ, (sp_law_share) ds mu Φ X0 → (w_law_share) (startD 3 ds) mu ⟨fun _ mu' => fin mu Φ .non mu', fin mu Φ, fun _ _ => False, fun _ _ => False⟩ X0) :
    Cal P w K mg base CX0 3 "_law_share" ["deck", "most"] (toSp T (sp_law_share)) :=
  cal0 F sc_law_share len (fun f cdv A outer s H hr => (dss_cons (ds_set (ps_set (i := 2) sc_law_share.nd rfl (Or.inl rfl) (de_op op_addA s_add de_int (de_call c_law_pick (hr.mono (by decide)) (by rfl) (da_cons (de_var (pv 0)) (da_cons (de_var (pv 1)) da_nil))))))
    (dss_one (ds_ret (de_call c_law_low (hr.mono (by decide)) (by rfl) (da_cons (de_op op_addA s_add de_int (de_call c_law_pick (hr.mono (by decide)) (by rfl) (da_cons (de_var (pv 0)) (da_cons (de_var (pv 2)) da_nil)))) (da_cons (de_var (pv 2)) da_nil))))))) rd hS
abbrev s_law_gain : Stmt := topS 66
theorem sc_law_gain : FnScope ["deck", "chance", "way"] ["deck", "chance"] (defScope s_law_gain) := ⟨rfl, rfl, rfl, by decide +kernel, rfl, by decide +kernel, by decide +kernel⟩
theorem ok_law_gain (t : Tx K mg) (F : Df K mg "_law_gain" s_law_gain ["deck", "chance"]) (c_law_low : Cal P w K mg base CX0 2 "_law_low" ["top", "below"] (toSp T (sp_law_low))) (c_law_pick : Cal P w K mg base CX0 1 "_law_pick" ["deck", "size"] (toSp T (sp_law_pick))) (c_law_shared : Cal P w K mg base CX0 1 "_law_shared" ["one", "other"] (toSp T (sp_law_shared)))
    (len : ∀ ds mu Φ Ξ, (sp_law_gain) ds mu Φ Ξ → ds.length = 2) (hS : ∀ ds mu Φ Ξ, (sp_law_gain) ds mu Φ Ξ → (sp_law_gain) ds mu Φ X0)
    (rd : ∀ ds mu Φ, (sp_law_gain) ds mu Φ X0 → (w_law_gain) (startD 3 ds) mu ⟨fun _ mu' => fin mu Φ .non mu', fin mu Φ, fun _ _ => False, fun _ _ => False⟩ X0) :
    Cal P w K mg base CX0 3 "_law_gain" ["deck", "chance"] (toSp T (sp_law_gain)) :=
  cal0 F sc_law_gain len (fun f cdv A outer s H hr => (dss_cons (ds_set (ps_set (i := 2) sc_law_gain.nd rfl (Or.inl rfl) (de_call c_law_pick (hr.mono (by decide)) (by rfl) (da_cons (de_var (pv 0)) (da_cons de_int da_nil)))))
    (dss_cons (ds_if (dt_cmp op_gt s_cmpI (de_var (pv 2)) de_int (nomark _)) (dss_one (ds_ret (de_if (dt_cmp (op_eqD hr.units) s_eq (de_call c_law_shared (hr.mono (by decide)) (by rfl) (da_cons (de_ix ix_seq s_ix (de_var (pv 1)) de_int) (da_cons (de_ix ix_seq s_ix (de_var (pv 1)) de_int) da_nil))) de_int (nomark _)) (de_tup (da_cons (de_ix ix_seq s_ix (de_var (pv 1)) de_int) (da_cons (de_ix ix_seq s_ix (de_var (pv 1)) de_int) da_nil))) (de_tup (da_cons de_int (da_cons de_int da_nil)))))) dss_nil)
    (dss_one (ds_ret (de_call c_law_low (hr.mono (by decide)) (by rfl) (da_cons (de_op op_sub s_sub (de_call c_law_pick (hr.mono (by decide)) (by rfl) (da_cons (de_var (pv 0)) (da_cons de_int da_nil))) de_int) (da_cons (de_op op_addA s_add de_int (de_call c_law_pick (hr.mono (by decide)) (by rfl) (da_cons (de_var (pv 0)) (da_cons de_int da_nil)))) da_nil)))))))) rd hS
abbrev s_law_plan : Stmt := topS 67
theorem sc_law_plan : FnScope ["deck", "most", "head", "chances_so", "turn", "chance", "less", "more"] ["deck", "most"] (defScope s_law_plan) := ⟨rfl, rfl, rfl, by decide +kernel, rfl, by decide +kernel, by decide +kernel⟩
theorem ok_law_plan (t : Tx K mg) (F : Df K mg "_law_plan" s_law_plan ["deck", "most"]) (c_law_gain : Cal P w K mg base CX0 3 "_law_gain" ["deck", "chance"] (toSp T (sp_law_gain))) (c_law_pick : Cal P w K mg base CX0 1 "_law_pick" ["deck", "size"] (toSp T (sp_law_pick))) (c_law_share : Cal P w K mg base CX0 3 "_law_share" ["deck", "most"] (toSp T (sp_law_share)))
    (len : ∀ ds mu Φ Ξ, (sp_law_plan) ds mu Φ Ξ → ds.length = 2) (hS : ∀ ds mu Φ Ξ, (sp_law_plan) ds mu Φ Ξ → (sp_law_plan) ds mu Φ X0)
    (rd : ∀ ds mu Φ, (sp_law_plan) ds mu Φ X0 → (w_law_plan) (startD 8 ds) mu ⟨fun _ mu' => fin mu Φ .non mu', fin mu Φ, fun _ _ => False, fun _ _ => False⟩ X0) :
    Cal P w K mg base CX0 4 "_law_plan" ["deck", "most"] (toSp T (sp_law_plan)) :=
  cal0 F sc_law_plan len (fun f cdv A outer s H hr => (dss_cons (ds_par (ps_par (i := 2) (j := 3) (by rfl) sc_law_plan.nd rfl rfl (by decide) rfl rfl (da_cons (de_tup da_nil) (da_cons (de_lc (pe_lc (own := [("turn", 4)]) (by rfl) sc_law_plan.nd (di_rng1 (by rfl) t.range (da_cons (de_op op_addA s_add (de_call c_law_pick (hr.mono (by decide)) (by rfl) (da_cons (de_var (pv 0)) (da_cons de_int da_nil))) de_int) da_nil)) (blkOk_by (own := [("turn", 4)]) (N := ["deck", "most", "head", "chances_so", "turn", "chance", "less", "more"]) (sc := defScope s_law_plan) (by decide +kernel)) (fun _ _ _ _ _ => pg_name (i := 4) sc_law_plan.nd rfl (Or.inl rfl)) (fun _ _ _ _ _ => dts_nil) (fun _ _ _ _ _ => (de_call c_law_share (hr.mono (by decide)) (by rfl) (da_cons (de_var (pv 0)) (da_cons (de_var (pv 1)) da_nil))))) (lcg_name (by decide))) da_nil)) (by rfl)))
    (dss_cons (ds_if (dt_cmp (op_eqD hr.units) s_eq (de_call c_law_pick (hr.mono (by decide)) (by rfl) (da_cons (de_var (pv 0)) (da_cons de_int da_nil))) de_int (nomark _)) (dss_one (ds_set (ps_set (i := 3) sc_law_plan.nd rfl (Or.inl rfl) (de_op op_addA s_add (de_op op_mulA s_mul (de_lst (da_cons (de_tup (da_cons de_int (da_cons de_int da_nil))) da_nil)) (de_op op_sub s_sub (de_B call_lenA s_len (by rfl) t.len PySem.boot_len (da_cons (de_var (pv 3)) da_nil)) de_int)) (de_slice sl_any s_sl (de_var (pv 3)) (do_some (de_un un_neg s_neg de_int)) do_none))))) dss_nil)
    (dss_cons (ds_for PassesOwn.never rfl (di_list (de_slice sl_any s_sl (de_var (pv 3)) do_none (do_some (de_un un_neg s_neg de_int)))) (pg_name (i := 5) sc_law_plan.nd rfl (Or.inl rfl)) sg_name (dss_one (ds_set (ps_set (i := 2) sc_law_plan.nd rfl (Or.inl rfl) (de_op op_addA s_add (de_var (pv 2)) (de_tup (da_cons (de_tup (da_cons (de_var (pv 5)) (da_cons (de_call c_law_gain (hr.mono (by decide)) (by rfl) (da_cons (de_var (pv 0)) (da_cons (de_var (pv 5)) da_nil))) da_nil))) da_nil)))))))
    (dss_cons (ds_set (ps_set (i := 6) sc_law_plan.nd rfl (Or.inl rfl) (de_call c_law_share (hr.mono (by decide)) (by rfl) (da_cons (de_var (pv 0)) (da_cons de_int da_nil)))))
    (dss_cons (ds_set (ps_set (i := 7) sc_law_plan.nd rfl (Or.inl rfl) (de_if (dt_cmp op_gt s_cmpI (de_call c_law_pick (hr.mono (by decide)) (by rfl) (da_cons (de_var (pv 0)) (da_cons de_int da_nil))) de_int (nomark _)) (de_tup (da_cons (de_ix ix_seq s_ix (de_var (pv 6)) de_int) (da_cons (de_ix ix_seq s_ix (de_var (pv 6)) de_int) da_nil))) (de_tup (da_cons (de_call c_law_pick (hr.mono (by decide)) (by rfl) (da_cons (de_var (pv 0)) (da_cons de_int da_nil))) (da_cons de_int da_nil))))))
    (dss_one (ds_ret (de_tup (da_cons (de_var (pv 2)) (da_cons (de_tup (da_cons (de_ix ix_seq s_ix (de_var (pv 3)) (de_un un_neg s_neg de_int)) (da_cons (de_var (pv 6)) (da_cons (de_call c_law_gain (hr.mono (by decide)) (by rfl) (da_cons (de_var (pv 0)) (da_cons (de_ix ix_seq s_ix (de_var (pv 3)) (de_un un_neg s_neg de_int)) da_nil))) (da_cons (de_var (pv 7)) da_nil))))) da_nil))))))))))) rd hS
abbrev s_law_step : Stmt := topS 68
theorem sc_law_step : FnScope ["plan_so", "level", "head", "tail", "chance", "gain", "turn"] ["plan_so", "level"] (defScope s_law_step) := ⟨rfl, rfl, rfl, by decide +kernel, rfl, by decide +kernel, by decide +kernel⟩
theorem ok_law_step (t : Tx K mg) (F : Df K mg "_law_step" s_law_step ["plan_so", "level"]) (c_law_times : Cal P w K mg base CX0 3 "_law_times" ["one", "other"] (toSp T (sp_law_times)))
    (len : ∀ ds mu Φ Ξ, (sp_law_step) ds mu Φ Ξ → ds.length = 2) (hS : ∀ ds mu Φ Ξ, (sp_law_step) ds mu Φ Ξ → (sp_law_step) ds mu Φ X0)
    (rd : ∀ ds mu Φ, (sp_law_step) ds mu Φ X0 → (w_law_step) (startD 7 ds) mu ⟨fun _ mu' => fin mu Φ .non mu', fin mu Φ, fun _ _ => False, fun _ _ => False⟩ X0) :
    Cal P w K mg base CX0 4 "_law_step" ["plan_so", "level"] (toSp T (sp_law_step)) :=
  cal0 F sc_law_step len (fun f cdv A outer s H hr => (dss_cons (ds_asg (ps_asg (de_var (pv 0)) (pg_tup rfl (pgs_cons (pg_name (i := 2) sc_law_step.nd rfl (Or.inl rfl)) (pgs_cons (pg_name (i := 3) sc_law_step.nd rfl (Or.inl rfl)) pgs_nil)))) (sg_tup (sg_cons sg_name (sg_cons sg_name sg_nil))))
    (dss_cons (ds_if (dt_cmp op_lt s_cmpI (de_var (pv 1)) (de_B call_lenA s_len (by rfl) t.len PySem.boot_len (da_cons (de_var (pv 2)) da_nil)) (nomark _)) (dss_one (ds_ret (de_ix ix_seq s_ix (de_var (pv 2)) (de_var (pv 1))))) dss_nil)
    (dss_cons (ds_par (ps_par (i := 4) (j := 5) (by rfl) sc_law_step.nd rfl rfl (by decide) rfl rfl (da_cons (de_ix ix_seq s_ix (de_var (pv 3)) de_int) (da_cons (de_ix ix_seq s_ix (de_var (pv 3)) de_int) da_nil)) (by rfl)))
    (dss_cons (ds_for PassesOwn.never rfl (di_rng1 (by rfl) t.range (da_cons (de_op op_sub s_sub (de_var (pv 1)) (de_B call_lenA s_len (by rfl) t.len PySem.boot_len (da_cons (de_var (pv 2)) da_nil))) da_nil)) (pg_name (i := 6) sc_law_step.nd rfl (Or.inl rfl)) sg_name (dss_one (ds_par (ps_par (i := 4) (j := 5) (by rfl) sc_law_step.nd rfl rfl (by decide) rfl rfl (da_cons (de_call c_law_times (hr.mono (by decide)) (by rfl) (da_cons (de_var (pv 4)) (da_cons (de_ix ix_seq s_ix (de_var (pv 3)) de_int) da_nil))) (da_cons (de_call c_law_times (hr.mono (by decide)) (by rfl) (da_cons (de_var (pv 5)) (da_cons (de_ix ix_seq s_ix (de_var (pv 3)) de_int) da_nil))) da_nil)) (by rfl)))))
    (dss_one (ds_ret (de_tup (da_cons (de_var (pv 4)) (da_cons (de_var (pv 5)) da_nil)))))))))) rd hS
abbrev s_law_told : Stmt := topS 69
theorem sc_law_told : FnScope ["plan_so", "level", "lower"] ["plan_so", "level"] (defScope s_law_told) := ⟨rfl, rfl, rfl, by decide +kernel, rfl, by decide +kernel, by decide +kernel⟩
theorem ok_law_told (t : Tx K mg) (F : Df K mg "_law_told" s_law_told ["plan_so", "level"]) (c_law_sum : Cal P w K mg base CX0 3 "_law_sum" ["rows"] (toSp T (sp_law_sum))) (c_law_step : Cal P w K mg base CX0 4 "_law_step" ["plan_so", "level"] (toSp T (sp_law_step)))
    (len : ∀ ds mu Φ Ξ, (sp_law_told) ds mu Φ Ξ → ds.length = 2) (hS : ∀ ds mu Φ Ξ, (sp_law_told) ds mu Φ Ξ → (sp_law_told) ds mu Φ X0)
    (rd : ∀ ds mu Φ, (sp_law_told) ds mu Φ X0 → (w_law_told) (startD 3 ds) mu ⟨fun _ mu' => fin mu Φ .non mu', fin mu Φ, fun _ _ => False, fun _ _ => False⟩ X0) :
    Cal P w K mg base CX0 5 "_law_told" ["plan_so", "level"] (toSp T (sp_law_told)) :=
  cal0 F sc_law_told len (fun f cdv A outer s H hr => (dss_one (ds_ret (de_call c_law_sum (hr.mono (by decide)) (by rfl) (da_cons (de_lc (pe_lc (own := [("lower", 2)]) (by rfl) sc_law_told.nd (di_rng1 (by rfl) t.range (da_cons (de_var (pv 1)) da_nil)) (blkOk_by (own := [("lower", 2)]) (N := ["plan_so", "level", "lower"]) (sc := defScope s_law_told) (by decide +kernel)) (fun _ _ _ _ _ => pg_name (i := 2) sc_law_told.nd rfl (Or.inl rfl)) (fun _ _ _ _ _ => dts_nil) (fun _ _ _ _ _ => (de_ix ix_seq s_ix (de_call c_law_step (hr.mono (by decide)) (by rfl) (da_cons (de_var (pv 0)) (da_cons (de_var (pv 2)) da_nil))) de_int))) (lcg_name (by decide))) da_nil))))) rd hS
abbrev s_law_stay : Stmt := topS 70
theorem sc_law_stay : FnScope ["chance"] ["chance"] (defScope s_law_stay) := ⟨rfl, rfl, rfl, by decide +kernel, rfl, by decide +kernel, by decide +kernel⟩
theorem ok_law_stay (t : Tx K mg) (F : Df K mg "_law_stay" s_law_stay ["chance"]) 
    (len : ∀ ds mu Φ Ξ, (sp_law_stay) ds mu Φ Ξ → ds.length = 1) (hS : ∀ ds mu Φ Ξ, (sp_law_stay) ds mu Φ Ξ → (sp_law_stay) ds mu Φ X0)
    (rd : ∀ ds mu Φ, (sp_law_stay) ds mu Φ X0 → (w_law_stay) (startD 1 ds) mu ⟨fun _ mu' => fin mu Φ .non mu', fin mu Φ, fun _ _ => False, fun _ _ => False⟩ X0) :
    Cal P w K mg base CX0 1 "_law_stay" ["chance"] (toSp T (sp_law_stay)) :=
  cal0 F sc_law_stay len (fun f cdv A outer s H hr => (dss_one (ds_ret (de_tup (da_cons (de_op op_sub s_sub (de_ix ix_seq s_ix (de_var (pv 0)) de_int) (de_ix ix_seq s_ix (de_var (pv 0)) de_int)) (da_cons (de_ix ix_seq s_ix (de_var (pv 0)) de_int) da_nil)))))) rd hS
abbrev s_law_rows : Stmt := topS 71
theorem sc_law_rows : FnScope ["plan_so", "most", "steps", "level", "rows", "count", "last", "row", "here"] ["plan_so", "most"] (defScope s_law_rows) := ⟨rfl, rfl, rfl, by decide +kernel, rfl, by decide +kernel, by decide +kernel⟩
theorem ok_law_rows (t : Tx K mg) (F : Df K mg "_law_rows" s_law_rows ["plan_so", "most"]) (c_law_sum : Cal P w K mg base CX0 3 "_law_sum" ["rows"] (toSp T (sp_law_sum))) (c_law_times : Cal P w K mg base CX0 3 "_law_times" ["one", "other"] (toSp T (sp_law_times))) (c_law_stay : Cal P w K mg base CX0 1 "_law_stay" ["chance"] (toSp T (sp_law_stay))) (c_law_step : Cal P w K mg base CX0 4 "_law_step" ["plan_so", "level"] (toSp T (sp_law_step)))
    (len : ∀ ds mu Φ Ξ, (sp_law_rows) ds mu Φ Ξ → ds.length = 2) (hS : ∀ ds mu Φ Ξ, (sp_law_rows) ds mu Φ Ξ → (sp_law_rows) ds mu Φ X0)
    (rd : ∀ ds mu Φ, (sp_law_rows) ds mu Φ X0 → (w_law_rows) (startD 9 ds) mu ⟨fun _ mu' => fin mu Φ .non mu', fin mu Φ, fun _ _ => False, fun _ _ => False⟩ X0) :
    Cal P w K mg base CX0 5 "_law_rows" ["plan_so", "most"] (toSp T (sp_law_rows)) :=
  cal0 F sc_law_rows len (fun f cdv A outer s H hr => (dss_cons (ds_lc (ps_setLc (i := 2) (own := [("level", 3)]) (by rfl) sc_law_rows.nd rfl rfl (sw_true rfl rfl rfl (by decide +kernel)) (di_rng1 (by rfl) t.range (da_cons (de_op op_addA s_add (de_var (pv 1)) de_int) da_nil)) (blkOk_by (own := [("level", 3)]) (N := ["plan_so", "most", "steps", "level", "rows", "count", "last", "row", "here"]) (sc := defScope s_law_rows) (by decide +kernel)) (fun _ _ _ _ _ => pg_name (i := 3) sc_law_rows.nd rfl (Or.inl rfl)) (fun _ _ _ _ _ => dts_nil) (fun _ _ _ _ _ => (de_ix ix_seq s_ix (de_call c_law_step (hr.mono (by decide)) (by rfl) (da_cons (de_var (pv 0)) (da_cons (de_var (pv 3)) da_nil))) de_int))) (lcg_name (by decide)))
    (dss_cons (ds_set (ps_set (i := 4) sc_law_rows.nd rfl (Or.inl rfl) (de_lstM (da_cons (de_lst (da_cons (de_tup (da_cons de_int (da_cons de_int da_nil))) da_nil)) da_nil))))
    (dss_cons (ds_for PassesOwn.never rfl (di_rng2 (by rfl) t.range (da_cons de_int (da_cons (de_op op_addA s_add (de_var (pv 1)) de_int) da_nil))) (pg_name (i := 5) sc_law_rows.nd rfl (Or.inl rfl)) sg_name (dss_cons (ds_par (ps_par (i := 6) (j := 7) (by rfl) sc_law_rows.nd rfl rfl (by decide) rfl rfl (da_cons (de_op op_addA s_add (de_ix ix_seq s_ix (de_var (pv 4)) (de_un un_neg s_neg de_int)) (de_lst (da_cons (de_tup (da_cons de_int (da_cons de_int da_nil))) da_nil))) (da_cons (de_lstM da_nil) da_nil)) (by rfl)))
    (dss_cons (ds_for PassesOwn.never rfl (di_rng1 (by rfl) t.range (da_cons (de_op op_addA s_add (de_var (pv 5)) de_int) da_nil)) (pg_name (i := 3) sc_law_rows.nd rfl (Or.inl rfl)) sg_name (dss_cons (ds_set (ps_set (i := 8) sc_law_rows.nd rfl (Or.inl rfl) (de_lstM (da_cons (de_call c_law_times (hr.mono (by decide)) (by rfl) (da_cons (de_ix ix_seq s_ix (de_var (pv 6)) (de_var (pv 3))) (da_cons (de_call c_law_stay (hr.mono (by decide)) (by rfl) (da_cons (de_ix ix_seq s_ix (de_var (pv 2)) (de_var (pv 3))) da_nil)) da_nil))) da_nil))))
    (dss_cons (ds_if (dt_cmp op_gt s_cmpI (de_var (pv 3)) de_int (nomark _)) (dss_one (ds_app (ps_expr (pe_bm PySem.F.plainAttrs_list PySem.F.slot_list_append PySem.F.type_list_append mt_append (de_var (pv 8)) (pa_cons (de_call c_law_times (hr.mono (by decide)) (by rfl) (da_cons (de_ix ix_seq s_ix (de_var (pv 6)) (de_op op_sub s_sub (de_var (pv 3)) de_int)) (da_cons (de_ix ix_seq s_ix (de_var (pv 2)) (de_op op_sub s_sub (de_var (pv 3)) de_int)) da_nil))) pa_nil))))) dss_nil)
    (dss_one (ds_frz 8 (ds_app (ps_expr (pe_bm PySem.F.plainAttrs_list PySem.F.slot_list_append PySem.F.type_list_append mt_append (de_var (pv 7)) (pa_cons (de_call c_law_sum (hr.mono (by decide)) (by rfl) (da_cons (de_var (pv 8)) da_nil)) pa_nil)))))))))
    (dss_one (ds_frz 7 (ds_app (ps_expr (pe_bm PySem.F.plainAttrs_list PySem.F.slot_list_append PySem.F.type_list_append mt_append (de_var (pv 4)) (pa_cons (de_var (pv 7)) pa_nil)))))))))
    (dss_one (ds_frz 4 (ds_ret (de_var (pv 4))))))))) rd hS
abbrev s_law_true : Stmt := topS 72
theorem sc_law_true : FnScope ["plan_so", "level", "chance", "gain"] ["plan_so", "level"] (defScope s_law_true) := ⟨rfl, rfl, rfl, by decide +kernel, rfl, by decide +kernel, by decide +kernel⟩
theorem ok_law_true (t : Tx K mg) (F : Df K mg "_law_true" s_law_true ["plan_so", "level"]) (c_law_step : Cal P w K mg base CX0 4 "_law_step" ["plan_so", "level"] (toSp T (sp_law_step)))
    (len : ∀ ds mu Φ Ξ, (sp_law_true) ds mu Φ Ξ → ds.length = 2) (hS : ∀ ds mu Φ Ξ, (sp_law_true) ds mu Φ Ξ → (sp_law_true) ds mu Φ X0)
    (rd : ∀ ds mu Φ, (sp_law_true) ds mu Φ X0 → (w_law_true) (startD 4 ds) mu ⟨fun _ mu' => fin mu Φ .non mu', fin mu Φ, fun _ _ => False, fun _ _ => False⟩ X0) :
    Cal P w K mg base CX0 5 "_law_true" ["plan_so", "level"] (toSp T (sp_law_true)) :=
  cal0 F sc_law_true len (fun f cdv A outer s H hr => (dss_cons (ds_asg (ps_asg (de_call c_law_step (hr.mono (by decide)) (by rfl) (da_cons (de_var (pv 0)) (da_cons (de_var (pv 1)) da_nil))) (pg_tup rfl (pgs_cons (pg_name (i := 2) sc_law_true.nd rfl (Or.inl rfl)) (pgs_cons (pg_name (i := 3) sc_law_true.nd rfl (Or.inl rfl)) pgs_nil)))) (sg_tup (sg_cons sg_name (sg_cons sg_name sg_nil))))
    (dss_one (ds_ret (de_cmp (op_eqD hr.units) s_eq (de_op op_mulA s_mul (de_ix ix_seq s_ix (de_var (pv 2)) de_int) (de_ix ix_seq s_ix (de_var (pv 3)) de_int)) (de_op op_mulA s_mul (de_ix ix_seq s_ix (de_var (pv 2)) de_int) (de_ix ix_seq s_ix (de_var (pv 3)) de_int)) (nomark _)))))) rd hS
abbrev s_law_untrue : Stmt := topS 73
theorem sc_law_untrue : FnScope ["plan_so", "some", "level"] ["plan_so"] (defScope s_law_untrue) := ⟨rfl, rfl, rfl, by decide +kernel, rfl, by decide +kernel, by decide +kernel⟩
theorem ok_law_untrue (t : Tx K mg) (F : Df K mg "_law_untrue" s_law_untrue ["plan_so"]) (c_law_true : Cal P w K mg base CX0 5 "_law_true" ["plan_so", "level"] (toSp T (sp_law_true)))
    (len : ∀ ds mu Φ Ξ, (sp_law_untrue) ds mu Φ Ξ → ds.length = 1) (hS : ∀ ds mu Φ Ξ, (sp_law_untrue) ds mu Φ Ξ → (sp_law_untrue) ds mu Φ X0)
    (rd : ∀ ds mu Φ, (sp_law_untrue) ds mu Φ X0 → (w_law_untrue) (startD 3 ds) mu ⟨fun _ mu' => fin mu Φ .non mu', fin mu Φ, fun _ _ => False, fun _ _ => False⟩ X0) :
    Cal P w K mg base CX0 6 "_law_untrue" ["plan_so"] (toSp T (sp_law_untrue)) :=
  cal0 F sc_law_untrue len (fun f cdv A outer s H hr => (dss_cons (ds_lc (ps_setLc (i := 1) (own := [("level", 2)]) (by rfl) sc_law_untrue.nd rfl rfl (sw_true rfl rfl rfl (by decide +kernel)) (di_rng1 (by rfl) t.range (da_cons de_int da_nil)) (blkOk_by (own := [("level", 2)]) (N := ["plan_so", "some", "level"]) (sc := defScope s_law_untrue) (by decide +kernel)) (fun _ _ _ _ _ => pg_name (i := 2) sc_law_untrue.nd rfl (Or.inl rfl)) (fun _ _ _ _ _ => dts_one (dt_not (dt_val (de_call c_law_true (hr.mono (by decide)) (by rfl) (da_cons (de_var (pv 0)) (da_cons (de_var (pv 2)) da_nil)))))) (fun _ _ _ _ _ => (de_var (pv 2)))) (lcg_name (by decide)))
    (dss_one (ds_ret (de_if (dt_cmp (op_neD hr.units) s_ne (de_var (pv 1)) (de_lst da_nil) (nomark _)) (de_ix ix_seq s_ix (de_var (pv 1)) de_int) de_non))))) rd hS
abbrev s_law_falls : Stmt := topS 74
theorem sc_law_falls : FnScope ["plan_so", "some", "level", "one", "other"] ["plan_so"] (defScope s_law_falls) := ⟨rfl, rfl, rfl, by decide +kernel, rfl, by decide +kernel, by decide +kernel⟩
theorem ok_law_falls (t : Tx K mg) (F : Df K mg "_law_falls" s_law_falls ["plan_so"]) (c_law_step : Cal P w K mg base CX0 4 "_law_step" ["plan_so", "level"] (toSp T (sp_law_step)))
    (len : ∀ ds mu Φ Ξ, (sp_law_falls) ds mu Φ Ξ → ds.length = 1) (hS : ∀ ds mu Φ Ξ, (sp_law_falls) ds mu Φ Ξ → (sp_law_falls) ds mu Φ X0)
    (rd : ∀ ds mu Φ, (sp_law_falls) ds mu Φ X0 → (w_law_falls) (startD 5 ds) mu ⟨fun _ mu' => fin mu Φ .non mu', fin mu Φ, fun _ _ => False, fun _ _ => False⟩ X0) :
    Cal P w K mg base CX0 5 "_law_falls" ["plan_so"] (toSp T (sp_law_falls)) :=
  cal0 F sc_law_falls len (fun f cdv A outer s H hr => (dss_cons (ds_lc (ps_setLc (i := 1) (own := [("level", 2)]) (by rfl) sc_law_falls.nd rfl rfl (sw_true rfl rfl rfl (by decide +kernel)) (di_rng1 (by rfl) t.range (da_cons de_int da_nil)) (blkOk_by (own := [("level", 2)]) (N := ["plan_so", "some", "level", "one", "other"]) (sc := defScope s_law_falls) (by decide +kernel)) (fun _ _ _ _ _ => pg_name (i := 2) sc_law_falls.nd rfl (Or.inl rfl)) (fun _ _ _ _ _ => dts_nil) (fun _ _ _ _ _ => (de_ix ix_seq s_ix (de_call c_law_step (hr.mono (by decide)) (by rfl) (da_cons (de_var (pv 0)) (da_cons (de_var (pv 2)) da_nil))) de_int))) (lcg_name (by decide)))
    (dss_cons (ds_for PassesOwn.never rfl (di_zip (by rfl) t.zip (da_cons (de_var (pv 1)) (da_cons (de_slice sl_any s_sl (de_var (pv 1)) (do_some de_int) do_none) da_nil))) (pg_tup rfl (pgs_cons (pg_name (i := 3) sc_law_falls.nd rfl (Or.inl rfl)) (pgs_cons (pg_name (i := 4) sc_law_falls.nd rfl (Or.inl rfl)) pgs_nil))) (sg_tup (sg_cons sg_name (sg_cons sg_name sg_nil))) (dss_one (ds_if (dt_cmp op_gt s_cmpI (de_op op_mulA s_mul (de_ix ix_seq s_ix (de_var (pv 4)) de_int) (de_ix ix_seq s_ix (de_var (pv 3)) de_int)) (de_op op_mulA s_mul (de_ix ix_seq s_ix (de_var (pv 3)) de_int) (de_ix ix_seq s_ix (de_var (pv 4)) de_int)) (nomark _)) (dss_one (ds_ret de_bl)) dss_nil)))
    (dss_one (ds_ret de_bl))))) rd hS
abbrev s_law_falling : Stmt := topS 75
theorem sc_law_falling : FnScope ["deck", "head", "last", "turn", "gain", "less"] ["deck"] (defScope s_law_falling) := ⟨rfl, rfl, rfl, by decide +kernel, rfl, by decide +kernel, by decide +kernel⟩
theorem ok_law_falling (t : Tx K mg) (F : Df K mg "_law_falling" s_law_falling ["deck"]) (c_law_share : Cal P w K mg base CX0 3 "_law_share" ["deck", "most"] (toSp T (sp_law_share))) (c_law_times : Cal P w K mg base CX0 3 "_law_times" ["one", "other"] (toSp T (sp_law_times))) (c_law_one : Cal P w K mg base CX0 2 "_law_one" ["deck", "some"] (toSp T (sp_law_one))) (c_law_pick : Cal P w K mg base CX0 1 "_law_pick" ["deck", "size"] (toSp T (sp_law_pick)))
    (len : ∀ ds mu Φ Ξ, (sp_law_falling) ds mu Φ Ξ → ds.length = 1) (hS : ∀ ds mu Φ Ξ, (sp_law_falling) ds mu Φ Ξ → (sp_law_falling) ds mu Φ X0)
    (rd : ∀ ds mu Φ, (sp_law_falling) ds mu Φ X0 → (w_law_falling) (startD 6 ds) mu ⟨fun _ mu' => fin mu Φ .non mu', fin mu Φ, fun _ _ => False, fun _ _ => False⟩ X0) :
    Cal P w K mg base CX0 4 "_law_falling" ["deck"] (toSp T (sp_law_falling)) :=
  cal0 F sc_law_falling len (fun f cdv A outer s H hr => (dss_cons (ds_asg (ps_asg (de_tup (da_cons (de_tup da_nil) (da_cons (de_tup (da_cons de_int (da_cons de_int da_nil))) da_nil))) (pg_tup rfl (pgs_cons (pg_name (i := 1) sc_law_falling.nd rfl (Or.inl rfl)) (pgs_cons (pg_name (i := 2) sc_law_falling.nd rfl (Or.inl rfl)) pgs_nil)))) (sg_tup (sg_cons sg_name (sg_cons sg_name sg_nil))))
    (dss_cons (ds_for PassesOwn.never rfl (di_rng1 (by rfl) t.range (da_cons (de_call c_law_pick (hr.mono (by decide)) (by rfl) (da_cons (de_var (pv 0)) (da_cons de_int da_nil))) da_nil)) (pg_name (i := 3) sc_law_falling.nd rfl (Or.inl rfl)) sg_name (dss_cons (ds_set (ps_set (i := 2) sc_law_falling.nd rfl (Or.inl rfl) (de_call c_law_times (hr.mono (by decide)) (by rfl) (da_cons (de_var (pv 2)) (da_cons (de_call c_law_one (hr.mono (by decide)) (by rfl) (da_cons (de_var (pv 0)) (da_cons (de_lst (da_cons (de_tup (da_cons de_int (da_cons de_int da_nil))) (da_cons (de_tup (da_cons de_int (da_cons de_int da_nil))) (da_cons (de_tup (da_cons de_int (da_cons de_int da_nil))) (da_cons (de_tup (da_cons de_int (da_cons de_int da_nil))) da_nil))))) da_nil))) da_nil)))))
    (dss_cons (ds_set (ps_set (i := 4) sc_law_falling.nd rfl (Or.inl rfl) (de_if (dt_cmp op_gt s_cmpI (de_call c_law_pick (hr.mono (by decide)) (by rfl) (da_cons (de_var (pv 0)) (da_cons de_int da_nil))) de_int (nomark _)) (de_tup (da_cons (de_ix ix_seq s_ix (de_var (pv 2)) de_int) (da_cons (de_ix ix_seq s_ix (de_var (pv 2)) de_int) da_nil))) (de_tup (da_cons (de_call c_law_pick (hr.mono (by decide)) (by rfl) (da_cons (de_var (pv 0)) (da_cons de_int da_nil))) (da_cons de_int da_nil))))))
    (dss_one (ds_set (ps_set (i := 1) sc_law_falling.nd rfl (Or.inl rfl) (de_op op_addA s_add (de_var (pv 1)) (de_tup (da_cons (de_tup (da_cons (de_var (pv 2)) (da_cons (de_var (pv 4)) da_nil))) da_nil)))))))))
    (dss_cons (ds_par (ps_par (i := 2) (j := 5) (by rfl) sc_law_falling.nd rfl rfl (by decide) rfl rfl (da_cons (de_call c_law_times (hr.mono (by decide)) (by rfl) (da_cons (de_var (pv 2)) (da_cons (de_call c_law_one (hr.mono (by decide)) (by rfl) (da_cons (de_var (pv 0)) (da_cons (de_lst (da_cons (de_tup (da_cons de_int (da_cons de_int da_nil))) (da_cons (de_tup (da_cons de_int (da_cons de_int da_nil))) (da_cons (de_tup (da_cons de_int (da_cons de_int da_nil))) da_nil)))) da_nil))) da_nil))) (da_cons (de_call c_law_share (hr.mono (by decide)) (by rfl) (da_cons (de_var (pv 0)) (da_cons de_int da_nil))) da_nil)) (by rfl)))
    (dss_one (ds_ret (de_tup (da_cons (de_var (pv 1)) (da_cons (de_tup (da_cons (de_var (pv 2)) (da_cons (de_var (pv 5)) (da_cons (de_tup (da_cons (de_ix ix_seq s_ix (de_var (pv 2)) de_int) (da_cons (de_ix ix_seq s_ix (de_var (pv 2)) de_int) da_nil))) (da_cons (de_tup (da_cons (de_ix ix_seq s_ix (de_var (pv 5)) de_int) (da_cons (de_ix ix_seq s_ix (de_var (pv 5)) de_int) da_nil))) da_nil))))) da_nil))))))))) rd hS
abbrev s_law_merged : Stmt := topS 76
theorem sc_law_merged : FnScope ["plan_so", "first", "second", "high", "low", "steps", "now", "level", "lower", "later", "up", "there", "share"] ["plan_so", "first", "second"] (defScope s_law_merged) := ⟨rfl, rfl, rfl, by decide +kernel, rfl, by decide +kernel, by decide +kernel⟩
theorem ok_law_merged (t : Tx K mg) (F : Df K mg "_law_merged" s_law_merged ["plan_so", "first", "second"]) (c_law_stay : Cal P w K mg base CX0 1 "_law_stay" ["chance"] (toSp T (sp_law_stay))) (c_law_sum : Cal P w K mg base CX0 3 "_law_sum" ["rows"] (toSp T (sp_law_sum))) (c_law_times : Cal P w K mg base CX0 3 "_law_times" ["one", "other"] (toSp T (sp_law_times))) (c_law_step : Cal P w K mg base CX0 4 "_law_step" ["plan_so", "level"] (toSp T (sp_law_step)))
    (len : ∀ ds mu Φ Ξ, (sp_law_merged) ds mu Φ Ξ → ds.length = 3) (hS : ∀ ds mu Φ Ξ, (sp_law_merged) ds mu Φ Ξ → (sp_law_merged) ds mu Φ X0)
    (rd : ∀ ds mu Φ, (sp_law_merged) ds mu Φ X0 → (w_law_merged) (startD 13 ds) mu ⟨fun _ mu' => fin mu Φ .non mu', fin mu Φ, fun _ _ => False, fun _ _ => False⟩ X0) :
    Cal P w K mg base CX0 5 "_law_merged" ["plan_so", "first", "second"] (toSp T (sp_law_merged)) :=
  cal0 F sc_law_merged len (fun f cdv A outer s H hr => (dss_cons (ds_par (ps_par (i := 3) (j := 4) (by rfl) sc_law_merged.nd rfl rfl (by decide) rfl rfl (da_cons (de_B (call_max2 rfl) s_max (by rfl) t.max (by decide +kernel) (da_cons (de_var (pv 1)) (da_cons (de_var (pv 2)) da_nil))) (da_cons (de_B (call_min2 rfl) s_min (by rfl) t.min (by decide +kernel) (da_cons (de_var (pv 1)) (da_cons (de_var (pv 2)) da_nil))) da_nil)) (by rfl)))
    (dss_cons (ds_asg (ps_asg (de_tup (da_cons (de_lc (pe_lc (own := [("level", 7)]) (by rfl) sc_law_merged.nd (di_rng1 (by rfl) t.range (da_cons (de_op op_addA s_add (de_op op_addA s_add (de_var (pv 3)) (de_var (pv 4))) de_int) da_nil)) (blkOk_by (own := [("level", 7)]) (N := ["plan_so", "first", "second", "high", "low", "steps", "now", "level", "lower", "later", "up", "there", "share"]) (sc := defScope s_law_merged) (by decide +kernel)) (fun _ _ _ _ _ => pg_name (i := 7) sc_law_merged.nd rfl (Or.inl rfl)) (fun _ _ _ _ _ => dts_nil) (fun _ _ _ _ _ => (de_ix ix_seq s_ix (de_call c_law_step (hr.mono (by decide)) (by rfl) (da_cons (de_var (pv 0)) (da_cons (de_var (pv 7)) da_nil))) de_int))) (lcg_name (by decide))) (da_cons (de_disp (PrsE.cons (de_var (pv 3)) (de_tup (da_cons de_int (da_cons de_int da_nil))) PrsE.nil) (fun z => by cases z) (by decide)) da_nil))) (pg_tup rfl (pgs_cons (pg_name (i := 5) sc_law_merged.nd rfl (Or.inl rfl)) (pgs_cons (pg_name (i := 6) sc_law_merged.nd rfl (Or.inr rfl)) pgs_nil)))) (sg_tup (sg_cons sg_name (sg_cons sg_name sg_nil))))
    (dss_cons (ds_for PassesOwn.never rfl (di_rng1 (by rfl) t.range (da_cons (de_var (pv 4)) da_nil)) (pg_name (i := 8) sc_law_merged.nd rfl (Or.inl rfl)) sg_name (dss_cons (ds_set (ps_set (i := 9) sc_law_merged.nd rfl (Or.inl rfl) de_dnewK))
    (dss_cons (ds_forD PassesOwn.never rfl (de_var (pv 6)) (pg_name (i := 7) sc_law_merged.nd rfl (Or.inl rfl)) sg_name (dss_cons (ds_set (ps_set (i := 10) sc_law_merged.nd rfl (Or.inl rfl) (de_call c_law_times (hr.mono (by decide)) (by rfl) (da_cons (de_ix ix_seq s_ix (de_var (pv 5)) (de_var (pv 7))) (da_cons (de_tup (da_cons (de_ix ix_seq s_ix (de_ix ix_seq s_ix (de_var (pv 5)) (de_var (pv 8))) de_int) (da_cons (de_ix ix_seq s_ix (de_ix ix_seq s_ix (de_var (pv 5)) (de_var (pv 8))) de_int) da_nil))) da_nil)))))
    (dss_one (ds_for PassesOwn.never rfl (di_tup (de_tup (da_cons (de_tup (da_cons (de_op op_addA s_add (de_var (pv 7)) de_int) (da_cons (de_var (pv 10)) da_nil))) (da_cons (de_tup (da_cons (de_var (pv 7)) (da_cons (de_call c_law_stay (hr.mono (by decide)) (by rfl) (da_cons (de_var (pv 10)) da_nil)) da_nil))) da_nil)))) (pg_tup rfl (pgs_cons (pg_name (i := 11) sc_law_merged.nd rfl (Or.inl rfl)) (pgs_cons (pg_name (i := 12) sc_law_merged.nd rfl (Or.inl rfl)) pgs_nil))) (sg_tup (sg_cons sg_name (sg_cons sg_name sg_nil))) (dss_one (ds_dput (u1 hr) (de_call c_law_sum (hr.mono (by decide)) (by rfl) (da_cons (de_lst (da_cons (de_dget2 (u1 hr) (de_var (pv 9)) (de_var (pv 11)) (de_tup (da_cons de_int (da_cons de_int da_nil))) ⟨rfl, rfl, rfl, rfl⟩) (da_cons (de_call c_law_times (hr.mono (by decide)) (by rfl) (da_cons (de_dget (u1 hr) (de_var (pv 6)) (de_var (pv 7))) (da_cons (de_var (pv 12)) da_nil))) da_nil))) da_nil)) (de_var (pv 9)) (de_var (pv 11))))))))
    (dss_one (ds_set (ps_set (i := 6) sc_law_merged.nd rfl (Or.inr rfl) (de_var (pv 9))))))))
    (dss_one (ds_ret (de_BT call_tuple_of s_tuple (by rfl) t.tuple (by decide +kernel) (da_cons (de_lc (pe_lc (own := [("level", 7)]) (by rfl) sc_law_merged.nd (di_rng2 (by rfl) t.range (da_cons (de_var (pv 3)) (da_cons (de_op op_addA s_add (de_op op_addA s_add (de_var (pv 3)) (de_var (pv 4))) de_int) da_nil))) (blkOk_by (own := [("level", 7)]) (N := ["plan_so", "first", "second", "high", "low", "steps", "now", "level", "lower", "later", "up", "there", "share"]) (sc := defScope s_law_merged) (by decide +kernel)) (fun _ _ _ _ _ => pg_name (i := 7) sc_law_merged.nd rfl (Or.inl rfl)) (fun _ _ _ _ _ => dts_nil) (fun _ _ _ _ _ => (de_dget2 (u1 hr) (de_var (pv 6)) (de_var (pv 7)) (de_tup (da_cons de_int (da_cons de_int da_nil))) ⟨rfl, rfl, rfl, rfl⟩))) (lcg_name (by decide))) da_nil)))))))) rd hS
abbrev s_law_right : Stmt := topS 77
theorem sc_law_right : FnScope ["deck", "plan_so", "first", "second", "told", "high", "rows", "at", "share", "few", "more", "due"] ["deck", "plan_so"] (defScope s_law_right) := ⟨rfl, rfl, rfl, by decide +kernel, rfl, by decide +kernel, by decide +kernel⟩
theorem ok_law_right (t : Tx K mg) (F : Df K mg "_law_right" s_law_right ["deck", "plan_so"]) (c_law_same : Cal P w K mg base CX0 7 "_law_same" ["told", "due"] (toSp T (sp_law_same 6))) (c_merged_chances : Cal P w K mg base (L2N.CX P w) 8 "merged_chances" ["plan", "few", "more"] (toSp T (sp_merged_chances mg))) (c_law_rows : Cal P w K mg base CX0 5 "_law_rows" ["plan_so", "most"] (toSp T (sp_law_rows))) (c_law_pick : Cal P w K mg base CX0 1 "_law_pick" ["deck", "size"] (toSp T (sp_law_pick))) (c_law_untrue : Cal P w K mg base CX0 6 "_law_untrue" ["plan_so"] (toSp T (sp_law_untrue))) (c_law_sum : Cal P w K mg base CX0 3 "_law_sum" ["rows"] (toSp T (sp_law_sum))) (c_law_told : Cal P w K mg base CX0 5 "_law_told" ["plan_so", "level"] (toSp T (sp_law_told))) (c_law_times : Cal P w K mg base CX0 3 "_law_times" ["one", "other"] (toSp T (sp_law_times))) (c_merged : Cal P w K mg base (L2N.CX P w) 8 "merged" ["plan", "first", "second"] (toSp T (sp_merged mg))) (c_law_merged : Cal P w K mg base CX0 5 "_law_merged" ["plan_so", "first", "second"] (toSp T (sp_law_merged)))
    (len : ∀ ds mu Φ Ξ, (sp_law_right) ds mu Φ Ξ → ds.length = 2) (hS : ∀ ds mu Φ Ξ, (sp_law_right) ds mu Φ Ξ → (sp_law_right) ds mu Φ X0)
    (rd : ∀ ds mu Φ, (sp_law_right) ds mu Φ X0 → (w_law_right mg) (startD 12 ds) mu ⟨fun _ mu' => fin mu Φ .non mu', fin mu Φ, fun _ _ => False, fun _ _ => False⟩ X0) :
    Cal P w K mg base CX0 9 "_law_right" ["deck", "plan_so"] (toSp T (sp_law_right)) :=
  cal0 F sc_law_right len (fun f cdv A outer s H hr => (dss_cons (ds_par (ps_par (i := 2) (j := 3) (by rfl) sc_law_right.nd rfl rfl (by decide) rfl rfl (da_cons (de_call c_law_pick (hr.mono (by decide)) (by rfl) (da_cons (de_var (pv 0)) (da_cons de_int da_nil))) (da_cons (de_call c_law_pick (hr.mono (by decide)) (by rfl) (da_cons (de_var (pv 0)) (da_cons de_int da_nil))) da_nil)) (by rfl)))
    (dss_cons (ds_set (ps_set (i := 4) sc_law_right.nd rfl (Or.inl rfl) (de_callN c_merged (hr.mono (by decide)) (by rfl) (da_cons (de_var (pv 1)) (da_cons (de_var (pv 2)) (da_cons (de_var (pv 3)) da_nil))))))
    (dss_cons (ds_if (dt_not (dt_val (de_call c_law_same (hr.mono (by decide)) (by rfl) (da_cons (de_var (pv 4)) (da_cons (de_call c_law_merged (hr.mono (by decide)) (by rfl) (da_cons (de_var (pv 1)) (da_cons (de_var (pv 2)) (da_cons (de_var (pv 3)) da_nil)))) da_nil))))) (dss_one (ds_ret de_bl)) dss_nil)
    (dss_cons (ds_if (dt_cmp (op_neD hr.units) s_ne (de_var (pv 4)) (de_callN c_merged (hr.mono (by decide)) (by rfl) (da_cons (de_var (pv 1)) (da_cons (de_var (pv 3)) (da_cons (de_var (pv 2)) da_nil)))) (nomark _)) (dss_one (ds_ret de_bl)) dss_nil)
    (dss_cons (ds_if (dt_cmp op_isN s_isN (de_call c_law_untrue (hr.mono (by decide)) (by rfl) (da_cons (de_var (pv 1)) da_nil)) de_non (nomark _)) (dss_cons (ds_par (ps_par (i := 5) (j := 6) (by rfl) sc_law_right.nd rfl rfl (by decide) rfl rfl (da_cons (de_B (call_max2 rfl) s_max (by rfl) t.max (by decide +kernel) (da_cons (de_var (pv 2)) (da_cons (de_var (pv 3)) da_nil))) (da_cons (de_lstM da_nil) da_nil)) (by rfl)))
    (dss_cons (ds_for PassesOwn.never rfl (di_enumA (by rfl) t.enumerate (da_cons (de_var (pv 4)) da_nil)) (pg_tup rfl (pgs_cons (pg_name (i := 7) sc_law_right.nd rfl (Or.inl rfl)) (pgs_cons (pg_name (i := 8) sc_law_right.nd rfl (Or.inl rfl)) pgs_nil))) (sg_tup (sg_cons sg_name (sg_cons sg_name sg_nil))) (dss_one (ds_app (ps_expr (pe_bm PySem.F.plainAttrs_list PySem.F.slot_list_append PySem.F.type_list_append mt_append (de_var (pv 6)) (pa_cons (de_call c_law_times (hr.mono (by decide)) (by rfl) (da_cons (de_var (pv 8)) (da_cons (de_call c_law_told (hr.mono (by decide)) (by rfl) (da_cons (de_var (pv 1)) (da_cons (de_op op_addA s_add (de_var (pv 5)) (de_var (pv 7))) da_nil))) da_nil))) pa_nil))))))
    (dss_one (ds_frz 6 (ds_if (dt_cmp (op_neD hr.units) s_ne (de_call c_law_sum (hr.mono (by decide)) (by rfl) (da_cons (de_var (pv 6)) da_nil)) (de_call c_law_sum (hr.mono (by decide)) (by rfl) (da_cons (de_lst (da_cons (de_call c_law_told (hr.mono (by decide)) (by rfl) (da_cons (de_var (pv 1)) (da_cons (de_var (pv 2)) da_nil))) (da_cons (de_call c_law_told (hr.mono (by decide)) (by rfl) (da_cons (de_var (pv 1)) (da_cons (de_var (pv 3)) da_nil))) da_nil))) da_nil)) (nomark _)) (dss_one (ds_ret de_bl)) dss_nil))))) dss_nil)
    (dss_cons (ds_par (ps_par (i := 9) (j := 10) (by rfl) sc_law_right.nd rfl rfl (by decide) rfl rfl (da_cons (de_call c_law_pick (hr.mono (by decide)) (by rfl) (da_cons (de_var (pv 0)) (da_cons de_int da_nil))) (da_cons (de_call c_law_pick (hr.mono (by decide)) (by rfl) (da_cons (de_var (pv 0)) (da_cons de_int da_nil))) da_nil)) (by rfl)))
    (dss_cons (ds_set (ps_set (i := 11) sc_law_right.nd rfl (Or.inl rfl) (de_BT call_tuple_of s_tuple (by rfl) t.tuple (by decide +kernel) (da_cons (de_ix ix_seq s_ix (de_call c_law_rows (hr.mono (by decide)) (by rfl) (da_cons (de_var (pv 1)) (da_cons (de_op op_addA s_add (de_var (pv 9)) (de_var (pv 10))) da_nil))) (de_op op_addA s_add (de_var (pv 9)) (de_var (pv 10)))) da_nil))))
    (dss_one (ds_ret (de_call c_law_same (hr.mono (by decide)) (by rfl) (da_cons (de_callN c_merged_chances (hr.mono (by decide)) (by rfl) (da_cons (de_var (pv 1)) (da_cons (de_var (pv 9)) (da_cons (de_var (pv 10)) da_nil)))) (da_cons (de_var (pv 11)) da_nil))))))))))))) rd hS
abbrev s_law : Stmt := topS 78
theorem sc_law : FnScope ["script", "cell", "deck", "turn", "odd", "plan_so", "a", "b", "c", "rise"] ["script"] (defScope s_law) := ⟨rfl, rfl, rfl, by decide +kernel, rfl, by decide +kernel, by decide +kernel⟩
theorem ok_law {c : Addr} (t : Tx K mg) {f0 : Addr} {fd : FuncData} (F : DfLx K mg "law" s_law ["script"] c f0 fd) (c_merged_chances : Cal P w K mg base (L2N.CX P w) 8 "merged_chances" ["plan", "few", "more"] (toSp T (sp_merged_chances mg))) (c_chances : Cal P w K mg base (L2N.CX P w) 8 "chances" ["plan", "count"] (toSp T (sp_chances mg))) (c_merged : Cal P w K mg base (L2N.CX P w) 8 "merged" ["plan", "first", "second"] (toSp T (sp_merged mg))) (c_law_known : Cal P w K mg base CX0 1 "_law_known" [] (toSp T (sp_law_known))) (c_law_falls : Cal P w K mg base CX0 5 "_law_falls" ["plan_so"] (toSp T (sp_law_falls))) (c_law_plan : Cal P w K mg base CX0 4 "_law_plan" ["deck", "most"] (toSp T (sp_law_plan))) (c_law_right : Cal P w K mg base CX0 9 "_law_right" ["deck", "plan_so"] (toSp T (sp_law_right))) (c_law_falling : Cal P w K mg base CX0 4 "_law_falling" ["deck"] (toSp T (sp_law_falling))) (c_law_deck : Cal P w K mg base CX0 1 "_law_deck" ["cell", "turn"] (toSp T (sp_law_deck))) (y_law_try : TryE P w K mg base T (KinR K mg) (cl mg "TooMany") (cl mg "ClimbError") "_law_try") (lam : LamE base mg T (envOfC "law" (defScope s_law) 0 0 (.ref c)).qual c)
    (len : ∀ ds mu Φ Ξ, (sp_law) ds mu Φ Ξ → ds.length = 1) (hS : ∀ ds mu Φ Ξ, (sp_law) ds mu Φ Ξ → (sp_law) ds mu Φ X0)
    (rd : ∀ ds mu Φ, (sp_law) ds mu Φ X0 → (w_law K mg) (startD 10 ds) mu ⟨fun _ mu' => fin mu Φ .non mu', fin mu Φ, fun _ _ => False, fun _ _ => False⟩ X0) :
    FnOk P w K mg base CX0 11 f0 fd ["script"] (toSp T (sp_law)) :=
  fnL F sc_law len (fun f A outer s H hr => (dss_cons (ds_for PassesOwn.never rfl (di_list (de_slice sl_any s_sl (de_op op_addA s_add (de_lst (da_cons de_int da_nil)) (de_var (pv 0))) do_none (do_some de_int))) (pg_name (i := 1) sc_law.nd rfl (Or.inl rfl)) sg_name (dss_cons (ds_set (ps_set (i := 2) sc_law.nd rfl (Or.inl rfl) (de_call c_law_deck (hr.mono (by decide)) (by rfl) (da_cons (de_var (pv 1)) (da_cons de_int da_nil)))))
    (dss_cons (ds_for PassesOwn.never rfl (di_rng1 (by rfl) t.range (da_cons de_int da_nil)) (pg_name (i := 3) sc_law.nd rfl (Or.inl rfl)) sg_name (dss_one (ds_if (dt_not (dt_val (de_call c_law_right (hr.mono (by decide)) (by rfl) (da_cons (de_var (pv 2)) (da_cons (de_call c_law_falling (hr.mono (by decide)) (by rfl) (da_cons (de_var (pv 2)) da_nil)) da_nil))))) (dss_one (ds_ret de_bl)) dss_nil)))
    (dss_cons (ds_for PassesOwn.never rfl (di_list (de_lst (da_cons de_non (da_cons (de_un un_neg s_neg de_int) (da_cons de_int (da_cons de_bl (da_cons de_str da_nil))))))) (pg_name (i := 4) sc_law.nd rfl (Or.inr rfl)) sg_name (dss_cons (ds_if (dt_cmp (op_neD hr.units) s_ne (de_try (k := 8) y_law_try (by rfl) lam rfl (hr.mono (by decide)) (LamX.lamS_by (sc := defScope s_law) (by decide +kernel)) rfl (fun _ _ _ _ _ => rfl) (fun A outer s H E f c' hr => (de_callXL c_merged (hr.mono (by decide)) (by rfl) (da_cons (de_ix ix_seq s_ix (de_call0PL c_law_known (hr.mono (by decide)) (by rfl)) de_int) (da_cons (de_var (pv 4)) (da_cons de_non da_nil)))))) de_str (nomark _)) (dss_one (ds_ret de_bl)) dss_nil)
    (dss_one (ds_if (dt_cmp (op_neD hr.units) s_ne (de_try (k := 8) y_law_try (by rfl) lam rfl (hr.mono (by decide)) (LamX.lamS_by (sc := defScope s_law) (by decide +kernel)) rfl (fun _ _ _ _ _ => rfl) (fun A outer s H E f c' hr => (de_callXL c_merged (hr.mono (by decide)) (by rfl) (da_cons (de_ix ix_seq s_ix (de_call0PL c_law_known (hr.mono (by decide)) (by rfl)) de_int) (da_cons de_int (da_cons (de_var (pv 4)) da_nil)))))) de_str (nomark _)) (dss_one (ds_ret de_bl)) dss_nil))))
    (dss_cons (ds_for PassesOwn.never rfl (di_list (de_lst (da_cons de_non (da_cons (de_un un_neg s_neg de_int) (da_cons de_int (da_cons de_bl da_nil)))))) (pg_name (i := 4) sc_law.nd rfl (Or.inr rfl)) sg_name (dss_cons (ds_if (dt_cmp (op_neD hr.units) s_ne (de_try (k := 8) y_law_try (by rfl) lam rfl (hr.mono (by decide)) (LamX.lamS_by (sc := defScope s_law) (by decide +kernel)) rfl (fun _ _ _ _ _ => rfl) (fun A outer s H E f c' hr => (de_callXL c_merged_chances (hr.mono (by decide)) (by rfl) (da_cons (de_ix ix_seq s_ix (de_call0PL c_law_known (hr.mono (by decide)) (by rfl)) de_int) (da_cons (de_var (pv 4)) (da_cons de_non da_nil)))))) de_str (nomark _)) (dss_one (ds_ret de_bl)) dss_nil)
    (dss_one (ds_if (dt_cmp (op_neD hr.units) s_ne (de_try (k := 8) y_law_try (by rfl) lam rfl (hr.mono (by decide)) (LamX.lamS_by (sc := defScope s_law) (by decide +kernel)) rfl (fun _ _ _ _ _ => rfl) (fun A outer s H E f c' hr => (de_callXL c_merged_chances (hr.mono (by decide)) (by rfl) (da_cons (de_ix ix_seq s_ix (de_call0PL c_law_known (hr.mono (by decide)) (by rfl)) de_int) (da_cons de_int (da_cons (de_var (pv 4)) da_nil)))))) de_str (nomark _)) (dss_one (ds_ret de_bl)) dss_nil))))
    (dss_cons (ds_set (ps_set (i := 5) sc_law.nd rfl (Or.inr rfl) (de_call c_law_plan (hr.mono (by decide)) (by rfl) (da_cons (de_var (pv 2)) (da_cons de_int da_nil)))))
    (dss_cons (ds_if (dt_not (dt_val (de_call c_law_falls (hr.mono (by decide)) (by rfl) (da_cons (de_var (pv 5)) da_nil)))) (dss_cons (ds_if (dt_cmp (op_neD hr.units) s_ne (de_try (k := 8) y_law_try (by rfl) lam rfl (hr.mono (by decide)) (LamX.lamS_by (sc := defScope s_law) (by decide +kernel)) rfl (fun _ _ _ _ _ => rfl) (fun A outer s H E f c' hr => (de_callXL c_merged (hr.mono (by decide)) (by rfl) (da_cons (de_var (pv 5)) (da_cons de_non (da_cons de_non da_nil)))))) de_str (nomark _)) (dss_one (ds_ret de_bl)) dss_nil)
    (dss_one (ds_if (dt_cmp (op_neD hr.units) s_ne (de_try (k := 8) y_law_try (by rfl) lam rfl (hr.mono (by decide)) (LamX.lamS_by (sc := defScope s_law) (by decide +kernel)) rfl (fun _ _ _ _ _ => rfl) (fun A outer s H E f c' hr => (de_callXL c_merged_chances (hr.mono (by decide)) (by rfl) (da_cons (de_var (pv 5)) (da_cons de_non (da_cons de_non da_nil)))))) de_str (nomark _)) (dss_one (ds_ret de_bl)) dss_nil))) dss_nil)
    (dss_one (ds_if (dt_cmp (op_neD hr.units) s_ne (de_try (k := 8) y_law_try (by rfl) lam rfl (hr.mono (by decide)) (LamX.lamS_by (sc := defScope s_law) (by decide +kernel)) rfl (fun _ _ _ _ _ => rfl) (fun A outer s H E f c' hr => (de_callXL c_merged (hr.mono (by decide)) (by rfl) (da_cons de_non (da_cons de_non (da_cons de_non da_nil)))))) de_str (nomark _)) (dss_one (ds_ret de_bl)) dss_nil)))))))))
    (dss_cons (ds_asg (ps_asg (de_call0 c_law_known (hr.mono (by decide)) (by rfl)) (pg_tup rfl (pgs_cons (pg_name (i := 6) sc_law.nd rfl (Or.inl rfl)) (pgs_cons (pg_name (i := 7) sc_law.nd rfl (Or.inl rfl)) (pgs_cons (pg_name (i := 8) sc_law.nd rfl (Or.inl rfl)) pgs_nil))))) (sg_tup (sg_cons sg_name (sg_cons sg_name (sg_cons sg_name sg_nil)))))
    (dss_cons (ds_if (PW.pt (dw_or (dt_cmp (op_neD hr.units) s_ne (de_callN c_merged (hr.mono (by decide)) (by rfl) (da_cons (de_var (pv 6)) (da_cons de_int (da_cons de_int da_nil)))) (de_tup (da_cons (de_tup (da_cons de_int (da_cons de_int da_nil))) (da_cons (de_tup (da_cons de_int (da_cons de_int da_nil))) da_nil))) (nomark _)) (dw_or1 (dt_cmp (op_neD hr.units) s_ne (de_callN c_merged (hr.mono (by decide)) (by rfl) (da_cons (de_var (pv 6)) (da_cons de_int (da_cons de_int da_nil)))) (de_tup (da_cons (de_tup (da_cons de_int (da_cons de_int da_nil))) (da_cons (de_tup (da_cons de_int (da_cons de_int da_nil))) (da_cons (de_tup (da_cons de_int (da_cons de_int da_nil))) da_nil)))) (nomark _))))) (dss_one (ds_ret de_bl)) dss_nil)
    (dss_cons (ds_if (PW.pt (dw_or (dt_cmp (op_neD hr.units) s_ne (de_callN c_merged (hr.mono (by decide)) (by rfl) (da_cons (de_var (pv 6)) (da_cons de_int (da_cons de_int da_nil)))) (de_tup (da_cons (de_tup (da_cons de_int (da_cons de_int da_nil))) da_nil)) (nomark _)) (dw_or1 (dt_cmp (op_neD hr.units) s_ne (de_callN c_merged (hr.mono (by decide)) (by rfl) (da_cons (de_var (pv 6)) (da_cons de_int (da_cons de_int da_nil)))) (de_tup (da_cons (de_tup (da_cons de_int (da_cons de_int da_nil))) da_nil)) (nomark _))))) (dss_one (ds_ret de_bl)) dss_nil)
    (dss_cons (ds_if (dt_cmp (op_neD hr.units) s_ne (de_callN c_merged (hr.mono (by decide)) (by rfl) (da_cons (de_var (pv 7)) (da_cons de_int (da_cons de_int da_nil)))) (de_tup (da_cons (de_tup (da_cons de_int (da_cons de_int da_nil))) (da_cons (de_tup (da_cons de_int (da_cons de_int da_nil))) da_nil))) (nomark _)) (dss_one (ds_ret de_bl)) dss_nil)
    (dss_cons (ds_if (PW.pt (dw_or (dt_cmp (op_neD hr.units) s_ne (de_callN c_merged_chances (hr.mono (by decide)) (by rfl) (da_cons (de_var (pv 6)) (da_cons de_int (da_cons de_int da_nil)))) (de_callN c_chances (hr.mono (by decide)) (by rfl) (da_cons (de_var (pv 6)) (da_cons de_int da_nil))) (nomark _)) (dw_or1 (dt_cmp (op_neD hr.units) s_ne (de_callN c_merged_chances (hr.mono (by decide)) (by rfl) (da_cons (de_var (pv 8)) (da_cons de_int (da_cons de_int da_nil)))) (de_callN c_chances (hr.mono (by decide)) (by rfl) (da_cons (de_var (pv 8)) (da_cons de_int da_nil))) (nomark _))))) (dss_one (ds_ret de_bl)) dss_nil)
    (dss_cons (ds_set (ps_set (i := 9) sc_law.nd rfl (Or.inr rfl) (de_tup (da_cons (de_tup (da_cons (de_tup (da_cons (de_tup (da_cons de_int (da_cons de_int da_nil))) (da_cons (de_tup (da_cons de_int (da_cons de_int da_nil))) da_nil))) da_nil)) (da_cons (de_tup (da_cons (de_tup (da_cons de_int (da_cons de_int da_nil))) (da_cons (de_tup (da_cons de_int (da_cons de_int da_nil))) (da_cons (de_tup (da_cons de_int (da_cons de_int da_nil))) (da_cons (de_tup (da_cons de_int (da_cons de_int da_nil))) da_nil))))) da_nil)))))
    (dss_cons (ds_if (PW.pt (dw_or (dt_cmp (op_neD hr.units) s_ne (de_try (k := 8) y_law_try (by rfl) lam rfl (hr.mono (by decide)) (LamX.lamS_by (sc := defScope s_law) (by decide +kernel)) rfl (fun _ _ _ _ _ => rfl) (fun A outer s H E f c' hr => (de_callXL c_merged (hr.mono (by decide)) (by rfl) (da_cons (de_var (pv 9)) (da_cons de_int (da_cons de_int da_nil)))))) de_str (nomark _)) (dw_or1 (dt_cmp (op_neD hr.units) s_ne (de_B call_lenA s_len (by rfl) t.len PySem.boot_len (da_cons (de_callN c_merged (hr.mono (by decide)) (by rfl) (da_cons (de_var (pv 6)) (da_cons de_int (da_cons de_int da_nil)))) da_nil)) de_int (nomark _))))) (dss_one (ds_ret de_bl)) dss_nil)
    (dss_cons (ds_if (dt_cmp (op_neD hr.units) s_ne (de_callN c_merged (hr.mono (by decide)) (by rfl) (da_cons (de_var (pv 7)) (da_cons de_int (da_cons de_int da_nil)))) (de_tup (da_cons (de_tup (da_cons de_int (da_cons de_int da_nil))) (da_cons (de_tup (da_cons de_int (da_cons de_int da_nil))) (da_cons (de_tup (da_cons de_int (da_cons de_int da_nil))) (da_cons (de_tup (da_cons de_int (da_cons de_int da_nil))) (da_cons (de_tup (da_cons de_int (da_cons de_int da_nil))) da_nil)))))) (nomark _)) (dss_one (ds_ret de_bl)) dss_nil)
    (dss_one (ds_ret (de_cmp (op_eqD hr.units) s_eq (de_callN c_merged_chances (hr.mono (by decide)) (by rfl) (da_cons (de_var (pv 7)) (da_cons de_int (da_cons de_int da_nil)))) (de_callN c_chances (hr.mono (by decide)) (by rfl) (da_cons (de_var (pv 7)) (da_cons de_int da_nil))) (nomark _)))))))))))))) rd hS

end
end DL
set_option maxHeartbeats 0
namespace DL
open PySem PySem.Spec PyProof.Rows L2
abbrev R : PySem.W.OpenRow := PySem.W.OpenLaw.row PySem.Challenge.rw_chanceclimb_k05_whole_registers_put_toge
def names0 : List Str := ["ClimbError", "InvalidPlan", "InvalidLevel", "InvalidCount", "InvalidLog", "InvalidText", "InvalidFactor", "InvalidPair", "InvalidDraw", "InvalidDraws", "NotSmooth", "NotFalling", "Unlike", "NothingToUndo", "TooMany", "MOST_TOP", "MOST_BELOW", "is_within", "divisor", "fraction"]
def names1 : List Str := ["plus", "minus", "times", "inverse", "power", "is_less", "is_fraction", "is_share", "MOST_HEAD", "MOST_LEVEL", "MOST_COUNT", "is_head_pair", "is_tail", "is_plan_value", "need_plan", "need_level", "need_count", "step_of", "is_falling", "led_on"]
def names2 : List Str := ["chances_by", "chances", "MOST_APART", "merged_by", "need_falling", "merged", "merged_chances", "_law_deck", "_law_pick", "_law_one", "_law_sort", "_law_same", "_law_kin", "_law_try", "_law_known", "_law_shared", "_law_low", "_law_sum", "_law_times", "_law_share"]
def names3 : List Str := ["_law_gain", "_law_plan", "_law_step", "_law_told", "_law_stay", "_law_rows", "_law_true", "_law_untrue", "_law_falls", "_law_falling", "_law_merged", "_law_right"]
def names : List Str := names0 ++ names1 ++ names2 ++ names3
def d_is_within : He.DefD := ⟨("is_within", none), "is_within", "is_within", defArgs (topS 19), defBody (topS 19), defScope (topS 19), [], []⟩
def d_divisor : He.DefD := ⟨("divisor", none), "divisor", "divisor", defArgs (topS 20), defBody (topS 20), defScope (topS 20), [], []⟩
def d_fraction : He.DefD := ⟨("fraction", none), "fraction", "fraction", defArgs (topS 21), defBody (topS 21), defScope (topS 21), [], []⟩
def d_plus : He.DefD := ⟨("plus", none), "plus", "plus", defArgs (topS 22), defBody (topS 22), defScope (topS 22), [], []⟩
def d_minus : He.DefD := ⟨("minus", none), "minus", "minus", defArgs (topS 23), defBody (topS 23), defScope (topS 23), [], []⟩
def d_times : He.DefD := ⟨("times", none), "times", "times", defArgs (topS 24), defBody (topS 24), defScope (topS 24), [], []⟩
def d_inverse : He.DefD := ⟨("inverse", none), "inverse", "inverse", defArgs (topS 25), defBody (topS 25), defScope (topS 25), [], []⟩
def d_power : He.DefD := ⟨("power", none), "power", "power", defArgs (topS 26), defBody (topS 26), defScope (topS 26), [], []⟩
def d_is_less : He.DefD := ⟨("is_less", none), "is_less", "is_less", defArgs (topS 27), defBody (topS 27), defScope (topS 27), [], []⟩
def d_is_fraction : He.DefD := ⟨("is_fraction", none), "is_fraction", "is_fraction", defArgs (topS 28), defBody (topS 28), defScope (topS 28), [], []⟩
def d_is_share : He.DefD := ⟨("is_share", none), "is_share", "is_share", defArgs (topS 29), defBody (topS 29), defScope (topS 29), [], []⟩
def d_is_head_pair : He.DefD := ⟨("is_head_pair", none), "is_head_pair", "is_head_pair", defArgs (topS 34), defBody (topS 34), defScope (topS 34), [], []⟩
def d_is_tail : He.DefD := ⟨("is_tail", none), "is_tail", "is_tail", defArgs (topS 35), defBody (topS 35), defScope (topS 35), [], []⟩
def d_is_plan_value : He.DefD := ⟨("is_plan_value", none), "is_plan_value", "is_plan_value", defArgs (topS 36), defBody (topS 36), defScope (topS 36), [], []⟩
def d_need_plan : He.DefD := ⟨("need_plan", none), "need_plan", "need_plan", defArgs (topS 37), defBody (topS 37), defScope (topS 37), [], []⟩
def d_need_level : He.DefD := ⟨("need_level", none), "need_level", "need_level", defArgs (topS 38), defBody (topS 38), defScope (topS 38), [], []⟩
def d_need_count : He.DefD := ⟨("need_count", none), "need_count", "need_count", defArgs (topS 39), defBody (topS 39), defScope (topS 39), [], []⟩
def d_step_of : He.DefD := ⟨("step_of", none), "step_of", "step_of", defArgs (topS 40), defBody (topS 40), defScope (topS 40), [], []⟩
def d_is_falling : He.DefD := ⟨("is_falling", none), "is_falling", "is_falling", defArgs (topS 41), defBody (topS 41), defScope (topS 41), [], []⟩
def d_led_on : He.DefD := ⟨("led_on", none), "led_on", "led_on", defArgs (topS 43), defBody (topS 43), defScope (topS 43), [], []⟩
def d_chances_by : He.DefD := ⟨("chances_by", none), "chances_by", "chances_by", defArgs (topS 44), defBody (topS 44), defScope (topS 44), [], []⟩
def d_chances : He.DefD := ⟨("chances", none), "chances", "chances", defArgs (topS 45), defBody (topS 45), defScope (topS 45), [], []⟩
def d_merged_by : He.DefD := ⟨("merged_by", none), "merged_by", "merged_by", defArgs (topS 48), defBody (topS 48), defScope (topS 48), [], []⟩
def d_need_falling : He.DefD := ⟨("need_falling", none), "need_falling", "need_falling", defArgs (topS 49), defBody (topS 49), defScope (topS 49), [], []⟩
def d_merged : He.DefD := ⟨("merged", none), "merged", "merged", defArgs (topS 50), defBody (topS 50), defScope (topS 50), [], []⟩
def d_merged_chances : He.DefD := ⟨("merged_chances", none), "merged_chances", "merged_chances", defArgs (topS 51), defBody (topS 51), defScope (topS 51), [], []⟩
def d_law_deck : He.DefD := ⟨("_law_deck", none), "_law_deck", "_law_deck", defArgs (topS 53), defBody (topS 53), defScope (topS 53), [], []⟩
def d_law_pick : He.DefD := ⟨("_law_pick", none), "_law_pick", "_law_pick", defArgs (topS 54), defBody (topS 54), defScope (topS 54), [], []⟩
def d_law_one : He.DefD := ⟨("_law_one", none), "_law_one", "_law_one", defArgs (topS 55), defBody (topS 55), defScope (topS 55), [], []⟩
def d_law_sort : He.DefD := ⟨("_law_sort", none), "_law_sort", "_law_sort", defArgs (topS 56), defBody (topS 56), defScope (topS 56), [], []⟩
def d_law_same : He.DefD := ⟨("_law_same", none), "_law_same", "_law_same", defArgs (topS 57), defBody (topS 57), defScope (topS 57), [], []⟩
def d_law_kin : He.DefD := ⟨("_law_kin", none), "_law_kin", "_law_kin", defArgs (topS 58), defBody (topS 58), defScope (topS 58), [], []⟩
def d_law_try : He.DefD := ⟨("_law_try", none), "_law_try", "_law_try", defArgs (topS 59), defBody (topS 59), defScope (topS 59), [], []⟩
def d_law_known : He.DefD := ⟨("_law_known", none), "_law_known", "_law_known", defArgs (topS 60), defBody (topS 60), defScope (topS 60), [], []⟩
def d_law_shared : He.DefD := ⟨("_law_shared", none), "_law_shared", "_law_shared", defArgs (topS 61), defBody (topS 61), defScope (topS 61), [], []⟩
def d_law_low : He.DefD := ⟨("_law_low", none), "_law_low", "_law_low", defArgs (topS 62), defBody (topS 62), defScope (topS 62), [], []⟩
def d_law_sum : He.DefD := ⟨("_law_sum", none), "_law_sum", "_law_sum", defArgs (topS 63), defBody (topS 63), defScope (topS 63), [], []⟩
def d_law_times : He.DefD := ⟨("_law_times", none), "_law_times", "_law_times", defArgs (topS 64), defBody (topS 64), defScope (topS 64), [], []⟩
def d_law_share : He.DefD := ⟨("_law_share", none), "_law_share", "_law_share", defArgs (topS 65), defBody (topS 65), defScope (topS 65), [], []⟩
def d_law_gain : He.DefD := ⟨("_law_gain", none), "_law_gain", "_law_gain", defArgs (topS 66), defBody (topS 66), defScope (topS 66), [], []⟩
def d_law_plan : He.DefD := ⟨("_law_plan", none), "_law_plan", "_law_plan", defArgs (topS 67), defBody (topS 67), defScope (topS 67), [], []⟩
def d_law_step : He.DefD := ⟨("_law_step", none), "_law_step", "_law_step", defArgs (topS 68), defBody (topS 68), defScope (topS 68), [], []⟩
def d_law_told : He.DefD := ⟨("_law_told", none), "_law_told", "_law_told", defArgs (topS 69), defBody (topS 69), defScope (topS 69), [], []⟩
def d_law_stay : He.DefD := ⟨("_law_stay", none), "_law_stay", "_law_stay", defArgs (topS 70), defBody (topS 70), defScope (topS 70), [], []⟩
def d_law_rows : He.DefD := ⟨("_law_rows", none), "_law_rows", "_law_rows", defArgs (topS 71), defBody (topS 71), defScope (topS 71), [], []⟩
def d_law_true : He.DefD := ⟨("_law_true", none), "_law_true", "_law_true", defArgs (topS 72), defBody (topS 72), defScope (topS 72), [], []⟩
def d_law_untrue : He.DefD := ⟨("_law_untrue", none), "_law_untrue", "_law_untrue", defArgs (topS 73), defBody (topS 73), defScope (topS 73), [], []⟩
def d_law_falls : He.DefD := ⟨("_law_falls", none), "_law_falls", "_law_falls", defArgs (topS 74), defBody (topS 74), defScope (topS 74), [], []⟩
def d_law_falling : He.DefD := ⟨("_law_falling", none), "_law_falling", "_law_falling", defArgs (topS 75), defBody (topS 75), defScope (topS 75), [], []⟩
def d_law_merged : He.DefD := ⟨("_law_merged", none), "_law_merged", "_law_merged", defArgs (topS 76), defBody (topS 76), defScope (topS 76), [], []⟩
def d_law_right : He.DefD := ⟨("_law_right", none), "_law_right", "_law_right", defArgs (topS 77), defBody (topS 77), defScope (topS 77), [], []⟩
def d_law : He.DefD := ⟨("law", none), "law", "law", defArgs (topS 78), defBody (topS 78), defScope (topS 78), [], []⟩
def fn : List He.DefD := [d_is_within, d_divisor, d_fraction, d_plus, d_minus, d_times, d_inverse, d_power, d_is_less, d_is_fraction, d_is_share, d_is_head_pair, d_is_tail, d_is_plan_value, d_need_plan, d_need_level, d_need_count, d_step_of, d_is_falling, d_led_on, d_chances_by, d_chances, d_merged_by, d_need_falling, d_merged, d_merged_chances, d_law_deck, d_law_pick, d_law_one, d_law_sort, d_law_same, d_law_kin, d_law_try, d_law_known, d_law_shared, d_law_low, d_law_sum, d_law_times, d_law_share, d_law_gain, d_law_plan, d_law_step, d_law_told, d_law_stay, d_law_rows, d_law_true, d_law_untrue, d_law_falls, d_law_falling, d_law_merged, d_law_right, d_law]
def fa : List He.Fa := [.glo "is_within", .glo "divisor", .glo "fraction", .glo "plus", .glo "minus", .glo "times", .glo "inverse", .glo "power", .glo "is_less", .glo "is_fraction", .glo "is_share", .glo "is_head_pair", .glo "is_tail", .glo "is_plan_value", .glo "need_plan", .glo "need_level", .glo "need_count", .glo "step_of", .glo "is_falling", .glo "led_on", .glo "chances_by", .glo "chances", .glo "merged_by", .glo "need_falling", .glo "merged", .glo "merged_chances", .glo "_law_deck", .glo "_law_pick", .glo "_law_one", .glo "_law_sort", .glo "_law_same", .glo "_law_kin", .glo "_law_try", .glo "_law_known", .glo "_law_shared", .glo "_law_low", .glo "_law_sum", .glo "_law_times", .glo "_law_share", .glo "_law_gain", .glo "_law_plan", .glo "_law_step", .glo "_law_told", .glo "_law_stay", .glo "_law_rows", .glo "_law_true", .glo "_law_untrue", .glo "_law_falls", .glo "_law_falling", .glo "_law_merged", .glo "_law_right", .glo "law", .glo "InvalidPlan", .glo "InvalidLevel", .glo "InvalidCount", .glo "InvalidLog", .glo "InvalidText", .glo "InvalidFactor", .glo "InvalidPair", .glo "InvalidDraw", .glo "InvalidDraws", .glo "NotSmooth", .glo "NotFalling", .glo "Unlike", .glo "NothingToUndo", .glo "TooMany", .glo "ClimbError", .free "ValueError", .free "abs", .free "all", .free "any", .free "bool", .free "enumerate", .free "int", .free "isinstance", .free "len", .free "list", .free "max", .free "min", .free "range", .free "str", .free "tuple", .free "zip", .int "MOST_APART" 8, .int "MOST_BELOW" 1000, .int "MOST_COUNT" 16, .int "MOST_HEAD" 4, .int "MOST_LEVEL" 16, .int "MOST_TOP" 1000, .exc "InvalidCount", .exc "InvalidLevel", .exc "InvalidPlan", .exc "NotFalling"]
def ex (K : PySem.W.Frag) : Bool := raisB K "InvalidCount" && raisB K "InvalidLevel" && raisB K "InvalidPlan" && raisB K "NotFalling" && noL K
def tf : List He.Defn := [("law", none)]
abbrev hk : PySem.W.Hook := He.hookX 5 fa fn [] tf ex
def ob (s : PySem.W.SharedT) : He.AlX := He.obsX 5 fa fn [] tf ex (HandSHeadRun.getT s)
theorem ob_eq (s : PySem.W.SharedT) : ob s = hk.obs s.abs := He.obsX_eq (HandSHeadRun.getT_eq s)
theorem run (w : World) : HandSHeadRun.RunEq R (PySem.W.view R.prog [78]) hk ob 12000 names w := by
  intro os
  kernel_rfl
end DL
set_option maxHeartbeats 0
namespace DL
open PySem PySem.Spec PyProof.Rows L2
/-! every promise has its length, and those of defs that raise nothing lean on no wish for errors -/
theorem len_is_within : ∀ ds mu Φ Ξ, sp_is_within ds mu Φ Ξ → ds.length = 3 := by
  intro ds mu Φ Ξ h
  first | (obtain ⟨rfl, _⟩ := h; rfl) | (obtain ⟨_, rfl, _⟩ := h; rfl) | (obtain ⟨_, _, rfl, _⟩ := h; rfl) | (obtain ⟨_, _, _, rfl, _⟩ := h; rfl) | (obtain ⟨_, _, _, _, rfl, _⟩ := h; rfl) | (obtain ⟨_, _, _, _, _, rfl, _⟩ := h; rfl) | (obtain ⟨_, _, _, _, _, _, rfl, _⟩ := h; rfl)
theorem len_divisor : ∀ ds mu Φ Ξ, sp_divisor ds mu Φ Ξ → ds.length = 2 := by
  intro ds mu Φ Ξ h
  first | (obtain ⟨rfl, _⟩ := h; rfl) | (obtain ⟨_, rfl, _⟩ := h; rfl) | (obtain ⟨_, _, rfl, _⟩ := h; rfl) | (obtain ⟨_, _, _, rfl, _⟩ := h; rfl) | (obtain ⟨_, _, _, _, rfl, _⟩ := h; rfl) | (obtain ⟨_, _, _, _, _, rfl, _⟩ := h; rfl) | (obtain ⟨_, _, _, _, _, _, rfl, _⟩ := h; rfl)
theorem len_fraction : ∀ ds mu Φ Ξ, sp_fraction ds mu Φ Ξ → ds.length = 2 := by
  intro ds mu Φ Ξ h
  first | (obtain ⟨rfl, _⟩ := h; rfl) | (obtain ⟨_, rfl, _⟩ := h; rfl) | (obtain ⟨_, _, rfl, _⟩ := h; rfl) | (obtain ⟨_, _, _, rfl, _⟩ := h; rfl) | (obtain ⟨_, _, _, _, rfl, _⟩ := h; rfl) | (obtain ⟨_, _, _, _, _, rfl, _⟩ := h; rfl) | (obtain ⟨_, _, _, _, _, _, rfl, _⟩ := h; rfl)
theorem len_plus : ∀ ds mu Φ Ξ, sp_plus ds mu Φ Ξ → ds.length = 2 := by
  intro ds mu Φ Ξ h
  first | (obtain ⟨rfl, _⟩ := h; rfl) | (obtain ⟨_, rfl, _⟩ := h; rfl) | (obtain ⟨_, _, rfl, _⟩ := h; rfl) | (obtain ⟨_, _, _, rfl, _⟩ := h; rfl) | (obtain ⟨_, _, _, _, rfl, _⟩ := h; rfl) | (obtain ⟨_, _, _, _, _, rfl, _⟩ := h; rfl) | (obtain ⟨_, _, _, _, _, _, rfl, _⟩ := h; rfl)
theorem len_minus : ∀ ds mu Φ Ξ, sp_minus ds mu Φ Ξ → ds.length = 2 := by
  intro ds mu Φ Ξ h
  first | (obtain ⟨rfl, _⟩ := h; rfl) | (obtain ⟨_, rfl, _⟩ := h; rfl) | (obtain ⟨_, _, rfl, _⟩ := h; rfl) | (obtain ⟨_, _, _, rfl, _⟩ := h; rfl) | (obtain ⟨_, _, _, _, rfl, _⟩ := h; rfl) | (obtain ⟨_, _, _, _, _, rfl, _⟩ := h; rfl) | (obtain ⟨_, _, _, _, _, _, rfl, _⟩ := h; rfl)
theorem len_times : ∀ ds mu Φ Ξ, sp_times ds mu Φ Ξ → ds.length = 2 := by
  intro ds mu Φ Ξ h
  first | (obtain ⟨rfl, _⟩ := h; rfl) | (obtain ⟨_, rfl, _⟩ := h; rfl) | (obtain ⟨_, _, rfl, _⟩ := h; rfl) | (obtain ⟨_, _, _, rfl, _⟩ := h; rfl) | (obtain ⟨_, _, _, _, rfl, _⟩ := h; rfl) | (obtain ⟨_, _, _, _, _, rfl, _⟩ := h; rfl) | (obtain ⟨_, _, _, _, _, _, rfl, _⟩ := h; rfl)
theorem len_inverse : ∀ ds mu Φ Ξ, sp_inverse ds mu Φ Ξ → ds.length = 1 := by
  intro ds mu Φ Ξ h
  first | (obtain ⟨rfl, _⟩ := h; rfl) | (obtain ⟨_, rfl, _⟩ := h; rfl) | (obtain ⟨_, _, rfl, _⟩ := h; rfl) | (obtain ⟨_, _, _, rfl, _⟩ := h; rfl) | (obtain ⟨_, _, _, _, rfl, _⟩ := h; rfl) | (obtain ⟨_, _, _, _, _, rfl, _⟩ := h; rfl) | (obtain ⟨_, _, _, _, _, _, rfl, _⟩ := h; rfl)
theorem len_power : ∀ ds mu Φ Ξ, sp_power ds mu Φ Ξ → ds.length = 2 := by
  intro ds mu Φ Ξ h
  first | (obtain ⟨rfl, _⟩ := h; rfl) | (obtain ⟨_, rfl, _⟩ := h; rfl) | (obtain ⟨_, _, rfl, _⟩ := h; rfl) | (obtain ⟨_, _, _, rfl, _⟩ := h; rfl) | (obtain ⟨_, _, _, _, rfl, _⟩ := h; rfl) | (obtain ⟨_, _, _, _, _, rfl, _⟩ := h; rfl) | (obtain ⟨_, _, _, _, _, _, rfl, _⟩ := h; rfl)
theorem len_is_less : ∀ ds mu Φ Ξ, sp_is_less ds mu Φ Ξ → ds.length = 2 := by
  intro ds mu Φ Ξ h
  first | (obtain ⟨rfl, _⟩ := h; rfl) | (obtain ⟨_, rfl, _⟩ := h; rfl) | (obtain ⟨_, _, rfl, _⟩ := h; rfl) | (obtain ⟨_, _, _, rfl, _⟩ := h; rfl) | (obtain ⟨_, _, _, _, rfl, _⟩ := h; rfl) | (obtain ⟨_, _, _, _, _, rfl, _⟩ := h; rfl) | (obtain ⟨_, _, _, _, _, _, rfl, _⟩ := h; rfl)
theorem len_is_fraction : ∀ ds mu Φ Ξ, sp_is_fraction ds mu Φ Ξ → ds.length = 1 := by
  intro ds mu Φ Ξ h
  first | (obtain ⟨rfl, _⟩ := h; rfl) | (obtain ⟨_, rfl, _⟩ := h; rfl) | (obtain ⟨_, _, rfl, _⟩ := h; rfl) | (obtain ⟨_, _, _, rfl, _⟩ := h; rfl) | (obtain ⟨_, _, _, _, rfl, _⟩ := h; rfl) | (obtain ⟨_, _, _, _, _, rfl, _⟩ := h; rfl) | (obtain ⟨_, _, _, _, _, _, rfl, _⟩ := h; rfl)
theorem len_is_share : ∀ ds mu Φ Ξ, sp_is_share ds mu Φ Ξ → ds.length = 1 := by
  intro ds mu Φ Ξ h
  first | (obtain ⟨rfl, _⟩ := h; rfl) | (obtain ⟨_, rfl, _⟩ := h; rfl) | (obtain ⟨_, _, rfl, _⟩ := h; rfl) | (obtain ⟨_, _, _, rfl, _⟩ := h; rfl) | (obtain ⟨_, _, _, _, rfl, _⟩ := h; rfl) | (obtain ⟨_, _, _, _, _, rfl, _⟩ := h; rfl) | (obtain ⟨_, _, _, _, _, _, rfl, _⟩ := h; rfl)
theorem len_is_head_pair : ∀ ds mu Φ Ξ, sp_is_head_pair ds mu Φ Ξ → ds.length = 1 := by
  intro ds mu Φ Ξ h
  first | (obtain ⟨rfl, _⟩ := h; rfl) | (obtain ⟨_, rfl, _⟩ := h; rfl) | (obtain ⟨_, _, rfl, _⟩ := h; rfl) | (obtain ⟨_, _, _, rfl, _⟩ := h; rfl) | (obtain ⟨_, _, _, _, rfl, _⟩ := h; rfl) | (obtain ⟨_, _, _, _, _, rfl, _⟩ := h; rfl) | (obtain ⟨_, _, _, _, _, _, rfl, _⟩ := h; rfl)
theorem len_is_tail : ∀ ds mu Φ Ξ, sp_is_tail ds mu Φ Ξ → ds.length = 1 := by
  intro ds mu Φ Ξ h
  first | (obtain ⟨rfl, _⟩ := h; rfl) | (obtain ⟨_, rfl, _⟩ := h; rfl) | (obtain ⟨_, _, rfl, _⟩ := h; rfl) | (obtain ⟨_, _, _, rfl, _⟩ := h; rfl) | (obtain ⟨_, _, _, _, rfl, _⟩ := h; rfl) | (obtain ⟨_, _, _, _, _, rfl, _⟩ := h; rfl) | (obtain ⟨_, _, _, _, _, _, rfl, _⟩ := h; rfl)
theorem len_is_plan_value : ∀ ds mu Φ Ξ, sp_is_plan_value ds mu Φ Ξ → ds.length = 1 := by
  intro ds mu Φ Ξ h
  first | (obtain ⟨rfl, _⟩ := h; rfl) | (obtain ⟨_, rfl, _⟩ := h; rfl) | (obtain ⟨_, _, rfl, _⟩ := h; rfl) | (obtain ⟨_, _, _, rfl, _⟩ := h; rfl) | (obtain ⟨_, _, _, _, rfl, _⟩ := h; rfl) | (obtain ⟨_, _, _, _, _, rfl, _⟩ := h; rfl) | (obtain ⟨_, _, _, _, _, _, rfl, _⟩ := h; rfl)
theorem len_need_plan (mg : Str → Option Value) : ∀ ds mu Φ Ξ, (sp_need_plan mg) ds mu Φ Ξ → ds.length = 1 := by
  intro ds mu Φ Ξ h
  first | (obtain ⟨rfl, _⟩ := h; rfl) | (obtain ⟨_, rfl, _⟩ := h; rfl) | (obtain ⟨_, _, rfl, _⟩ := h; rfl) | (obtain ⟨_, _, _, rfl, _⟩ := h; rfl) | (obtain ⟨_, _, _, _, rfl, _⟩ := h; rfl) | (obtain ⟨_, _, _, _, _, rfl, _⟩ := h; rfl) | (obtain ⟨_, _, _, _, _, _, rfl, _⟩ := h; rfl)
theorem len_need_level (mg : Str → Option Value) : ∀ ds mu Φ Ξ, (sp_need_level mg) ds mu Φ Ξ → ds.length = 1 := by
  intro ds mu Φ Ξ h
  first | (obtain ⟨rfl, _⟩ := h; rfl) | (obtain ⟨_, rfl, _⟩ := h; rfl) | (obtain ⟨_, _, rfl, _⟩ := h; rfl) | (obtain ⟨_, _, _, rfl, _⟩ := h; rfl) | (obtain ⟨_, _, _, _, rfl, _⟩ := h; rfl) | (obtain ⟨_, _, _, _, _, rfl, _⟩ := h; rfl) | (obtain ⟨_, _, _, _, _, _, rfl, _⟩ := h; rfl)
theorem len_need_count (mg : Str → Option Value) : ∀ ds mu Φ Ξ, (sp_need_count mg) ds mu Φ Ξ → ds.length = 2 := by
  intro ds mu Φ Ξ h
  first | (obtain ⟨rfl, _⟩ := h; rfl) | (obtain ⟨_, rfl, _⟩ := h; rfl) | (obtain ⟨_, _, rfl, _⟩ := h; rfl) | (obtain ⟨_, _, _, rfl, _⟩ := h; rfl) | (obtain ⟨_, _, _, _, rfl, _⟩ := h; rfl) | (obtain ⟨_, _, _, _, _, rfl, _⟩ := h; rfl) | (obtain ⟨_, _, _, _, _, _, rfl, _⟩ := h; rfl)
theorem len_step_of : ∀ ds mu Φ Ξ, sp_step_of ds mu Φ Ξ → ds.length = 2 := by
  intro ds mu Φ Ξ h
  first | (obtain ⟨rfl, _⟩ := h; rfl) | (obtain ⟨_, rfl, _⟩ := h; rfl) | (obtain ⟨_, _, rfl, _⟩ := h; rfl) | (obtain ⟨_, _, _, rfl, _⟩ := h; rfl) | (obtain ⟨_, _, _, _, rfl, _⟩ := h; rfl) | (obtain ⟨_, _, _, _, _, rfl, _⟩ := h; rfl) | (obtain ⟨_, _, _, _, _, _, rfl, _⟩ := h; rfl)
theorem len_is_falling : ∀ ds mu Φ Ξ, sp_is_falling ds mu Φ Ξ → ds.length = 1 := by
  intro ds mu Φ Ξ h
  first | (obtain ⟨rfl, _⟩ := h; rfl) | (obtain ⟨_, rfl, _⟩ := h; rfl) | (obtain ⟨_, _, rfl, _⟩ := h; rfl) | (obtain ⟨_, _, _, rfl, _⟩ := h; rfl) | (obtain ⟨_, _, _, _, rfl, _⟩ := h; rfl) | (obtain ⟨_, _, _, _, _, rfl, _⟩ := h; rfl) | (obtain ⟨_, _, _, _, _, _, rfl, _⟩ := h; rfl)
theorem len_led_on : ∀ ds mu Φ Ξ, sp_led_on ds mu Φ Ξ → ds.length = 2 := by
  intro ds mu Φ Ξ h
  first | (obtain ⟨rfl, _⟩ := h; rfl) | (obtain ⟨_, rfl, _⟩ := h; rfl) | (obtain ⟨_, _, rfl, _⟩ := h; rfl) | (obtain ⟨_, _, _, rfl, _⟩ := h; rfl) | (obtain ⟨_, _, _, _, rfl, _⟩ := h; rfl) | (obtain ⟨_, _, _, _, _, rfl, _⟩ := h; rfl) | (obtain ⟨_, _, _, _, _, _, rfl, _⟩ := h; rfl)
theorem len_chances_by : ∀ ds mu Φ Ξ, sp_chances_by ds mu Φ Ξ → ds.length = 3 := by
  intro ds mu Φ Ξ h
  first | (obtain ⟨rfl, _⟩ := h; rfl) | (obtain ⟨_, rfl, _⟩ := h; rfl) | (obtain ⟨_, _, rfl, _⟩ := h; rfl) | (obtain ⟨_, _, _, rfl, _⟩ := h; rfl) | (obtain ⟨_, _, _, _, rfl, _⟩ := h; rfl) | (obtain ⟨_, _, _, _, _, rfl, _⟩ := h; rfl) | (obtain ⟨_, _, _, _, _, _, rfl, _⟩ := h; rfl)
theorem len_chances (mg : Str → Option Value) : ∀ ds mu Φ Ξ, (sp_chances mg) ds mu Φ Ξ → ds.length = 2 := by
  intro ds mu Φ Ξ h
  first | (obtain ⟨rfl, _⟩ := h; rfl) | (obtain ⟨_, rfl, _⟩ := h; rfl) | (obtain ⟨_, _, rfl, _⟩ := h; rfl) | (obtain ⟨_, _, _, rfl, _⟩ := h; rfl) | (obtain ⟨_, _, _, _, rfl, _⟩ := h; rfl) | (obtain ⟨_, _, _, _, _, rfl, _⟩ := h; rfl) | (obtain ⟨_, _, _, _, _, _, rfl, _⟩ := h; rfl)
theorem len_merged_by : ∀ ds mu Φ Ξ, sp_merged_by ds mu Φ Ξ → ds.length = 3 := by
  intro ds mu Φ Ξ h
  first | (obtain ⟨rfl, _⟩ := h; rfl) | (obtain ⟨_, rfl, _⟩ := h; rfl) | (obtain ⟨_, _, rfl, _⟩ := h; rfl) | (obtain ⟨_, _, _, rfl, _⟩ := h; rfl) | (obtain ⟨_, _, _, _, rfl, _⟩ := h; rfl) | (obtain ⟨_, _, _, _, _, rfl, _⟩ := h; rfl) | (obtain ⟨_, _, _, _, _, _, rfl, _⟩ := h; rfl)
theorem len_need_falling (mg : Str → Option Value) : ∀ ds mu Φ Ξ, (sp_need_falling mg) ds mu Φ Ξ → ds.length = 1 := by
  intro ds mu Φ Ξ h
  first | (obtain ⟨rfl, _⟩ := h; rfl) | (obtain ⟨_, rfl, _⟩ := h; rfl) | (obtain ⟨_, _, rfl, _⟩ := h; rfl) | (obtain ⟨_, _, _, rfl, _⟩ := h; rfl) | (obtain ⟨_, _, _, _, rfl, _⟩ := h; rfl) | (obtain ⟨_, _, _, _, _, rfl, _⟩ := h; rfl) | (obtain ⟨_, _, _, _, _, _, rfl, _⟩ := h; rfl)
theorem len_merged (mg : Str → Option Value) : ∀ ds mu Φ Ξ, (sp_merged mg) ds mu Φ Ξ → ds.length = 3 := by
  intro ds mu Φ Ξ h
  first | (obtain ⟨rfl, _⟩ := h; rfl) | (obtain ⟨_, rfl, _⟩ := h; rfl) | (obtain ⟨_, _, rfl, _⟩ := h; rfl) | (obtain ⟨_, _, _, rfl, _⟩ := h; rfl) | (obtain ⟨_, _, _, _, rfl, _⟩ := h; rfl) | (obtain ⟨_, _, _, _, _, rfl, _⟩ := h; rfl) | (obtain ⟨_, _, _, _, _, _, rfl, _⟩ := h; rfl)
theorem len_merged_chances (mg : Str → Option Value) : ∀ ds mu Φ Ξ, (sp_merged_chances mg) ds mu Φ Ξ → ds.length = 3 := by
  intro ds mu Φ Ξ h
  first | (obtain ⟨rfl, _⟩ := h; rfl) | (obtain ⟨_, rfl, _⟩ := h; rfl) | (obtain ⟨_, _, rfl, _⟩ := h; rfl) | (obtain ⟨_, _, _, rfl, _⟩ := h; rfl) | (obtain ⟨_, _, _, _, rfl, _⟩ := h; rfl) | (obtain ⟨_, _, _, _, _, rfl, _⟩ := h; rfl) | (obtain ⟨_, _, _, _, _, _, rfl, _⟩ := h; rfl)
theorem len_law_deck : ∀ ds mu Φ Ξ, sp_law_deck ds mu Φ Ξ → ds.length = 2 := by
  intro ds mu Φ Ξ h
  first | (obtain ⟨rfl, _⟩ := h; rfl) | (obtain ⟨_, rfl, _⟩ := h; rfl) | (obtain ⟨_, _, rfl, _⟩ := h; rfl) | (obtain ⟨_, _, _, rfl, _⟩ := h; rfl) | (obtain ⟨_, _, _, _, rfl, _⟩ := h; rfl) | (obtain ⟨_, _, _, _, _, rfl, _⟩ := h; rfl) | (obtain ⟨_, _, _, _, _, _, rfl, _⟩ := h; rfl)
theorem len_law_pick : ∀ ds mu Φ Ξ, sp_law_pick ds mu Φ Ξ → ds.length = 2 := by
  intro ds mu Φ Ξ h
  first | (obtain ⟨rfl, _⟩ := h; rfl) | (obtain ⟨_, rfl, _⟩ := h; rfl) | (obtain ⟨_, _, rfl, _⟩ := h; rfl) | (obtain ⟨_, _, _, rfl, _⟩ := h; rfl) | (obtain ⟨_, _, _, _, rfl, _⟩ := h; rfl) | (obtain ⟨_, _, _, _, _, rfl, _⟩ := h; rfl) | (obtain ⟨_, _, _, _, _, _, rfl, _⟩ := h; rfl)
theorem len_law_one : ∀ ds mu Φ Ξ, sp_law_one ds mu Φ Ξ → ds.length = 2 := by
  intro ds mu Φ Ξ h
  first | (obtain ⟨rfl, _⟩ := h; rfl) | (obtain ⟨_, rfl, _⟩ := h; rfl) | (obtain ⟨_, _, rfl, _⟩ := h; rfl) | (obtain ⟨_, _, _, rfl, _⟩ := h; rfl) | (obtain ⟨_, _, _, _, rfl, _⟩ := h; rfl) | (obtain ⟨_, _, _, _, _, rfl, _⟩ := h; rfl) | (obtain ⟨_, _, _, _, _, _, rfl, _⟩ := h; rfl)
theorem len_law_sort : ∀ ds mu Φ Ξ, sp_law_sort ds mu Φ Ξ → ds.length = 1 := by
  intro ds mu Φ Ξ h
  first | (obtain ⟨rfl, _⟩ := h; rfl) | (obtain ⟨_, rfl, _⟩ := h; rfl) | (obtain ⟨_, _, rfl, _⟩ := h; rfl) | (obtain ⟨_, _, _, rfl, _⟩ := h; rfl) | (obtain ⟨_, _, _, _, rfl, _⟩ := h; rfl) | (obtain ⟨_, _, _, _, _, rfl, _⟩ := h; rfl) | (obtain ⟨_, _, _, _, _, _, rfl, _⟩ := h; rfl)
theorem len_law_same (n : Nat) : ∀ ds mu Φ Ξ, (sp_law_same (n + 1)) ds mu Φ Ξ → ds.length = 2 := by
  intro ds mu Φ Ξ h
  first | (obtain ⟨rfl, _⟩ := h; rfl) | (obtain ⟨_, rfl, _⟩ := h; rfl) | (obtain ⟨_, _, rfl, _⟩ := h; rfl) | (obtain ⟨_, _, _, rfl, _⟩ := h; rfl) | (obtain ⟨_, _, _, _, rfl, _⟩ := h; rfl) | (obtain ⟨_, _, _, _, _, rfl, _⟩ := h; rfl) | (obtain ⟨_, _, _, _, _, _, rfl, _⟩ := h; rfl)
theorem len_law_known : ∀ ds mu Φ Ξ, sp_law_known ds mu Φ Ξ → ds.length = 0 := by
  intro ds mu Φ Ξ h
  first | (obtain ⟨rfl, _⟩ := h; rfl) | (obtain ⟨_, rfl, _⟩ := h; rfl) | (obtain ⟨_, _, rfl, _⟩ := h; rfl) | (obtain ⟨_, _, _, rfl, _⟩ := h; rfl) | (obtain ⟨_, _, _, _, rfl, _⟩ := h; rfl) | (obtain ⟨_, _, _, _, _, rfl, _⟩ := h; rfl) | (obtain ⟨_, _, _, _, _, _, rfl, _⟩ := h; rfl)
theorem len_law_shared : ∀ ds mu Φ Ξ, sp_law_shared ds mu Φ Ξ → ds.length = 2 := by
  intro ds mu Φ Ξ h
  first | (obtain ⟨rfl, _⟩ := h; rfl) | (obtain ⟨_, rfl, _⟩ := h; rfl) | (obtain ⟨_, _, rfl, _⟩ := h; rfl) | (obtain ⟨_, _, _, rfl, _⟩ := h; rfl) | (obtain ⟨_, _, _, _, rfl, _⟩ := h; rfl) | (obtain ⟨_, _, _, _, _, rfl, _⟩ := h; rfl) | (obtain ⟨_, _, _, _, _, _, rfl, _⟩ := h; rfl)
theorem len_law_low : ∀ ds mu Φ Ξ, sp_law_low ds mu Φ Ξ → ds.length = 2 := by
  intro ds mu Φ Ξ h
  first | (obtain ⟨rfl, _⟩ := h; rfl) | (obtain ⟨_, rfl, _⟩ := h; rfl) | (obtain ⟨_, _, rfl, _⟩ := h; rfl) | (obtain ⟨_, _, _, rfl, _⟩ := h; rfl) | (obtain ⟨_, _, _, _, rfl, _⟩ := h; rfl) | (obtain ⟨_, _, _, _, _, rfl, _⟩ := h; rfl) | (obtain ⟨_, _, _, _, _, _, rfl, _⟩ := h; rfl)
theorem len_law_sum : ∀ ds mu Φ Ξ, sp_law_sum ds mu Φ Ξ → ds.length = 1 := by
  intro ds mu Φ Ξ h
  first | (obtain ⟨rfl, _⟩ := h; rfl) | (obtain ⟨_, rfl, _⟩ := h; rfl) | (obtain ⟨_, _, rfl, _⟩ := h; rfl) | (obtain ⟨_, _, _, rfl, _⟩ := h; rfl) | (obtain ⟨_, _, _, _, rfl, _⟩ := h; rfl) | (obtain ⟨_, _, _, _, _, rfl, _⟩ := h; rfl) | (obtain ⟨_, _, _, _, _, _, rfl, _⟩ := h; rfl)
theorem len_law_times : ∀ ds mu Φ Ξ, sp_law_times ds mu Φ Ξ → ds.length = 2 := by
  intro ds mu Φ Ξ h
  first | (obtain ⟨rfl, _⟩ := h; rfl) | (obtain ⟨_, rfl, _⟩ := h; rfl) | (obtain ⟨_, _, rfl, _⟩ := h; rfl) | (obtain ⟨_, _, _, rfl, _⟩ := h; rfl) | (obtain ⟨_, _, _, _, rfl, _⟩ := h; rfl) | (obtain ⟨_, _, _, _, _, rfl, _⟩ := h; rfl) | (obtain ⟨_, _, _, _, _, _, rfl, _⟩ := h; rfl)
theorem len_law_share : ∀ ds mu Φ Ξ, sp_law_share ds mu Φ Ξ → ds.length = 2 := by
  intro ds mu Φ Ξ h
  first | (obtain ⟨rfl, _⟩ := h; rfl) | (obtain ⟨_, rfl, _⟩ := h; rfl) | (obtain ⟨_, _, rfl, _⟩ := h; rfl) | (obtain ⟨_, _, _, rfl, _⟩ := h; rfl) | (obtain ⟨_, _, _, _, rfl, _⟩ := h; rfl) | (obtain ⟨_, _, _, _, _, rfl, _⟩ := h; rfl) | (obtain ⟨_, _, _, _, _, _, rfl, _⟩ := h; rfl)
theorem len_law_gain : ∀ ds mu Φ Ξ, sp_law_gain ds mu Φ Ξ → ds.length = 2 := by
  intro ds mu Φ Ξ h
  first | (obtain ⟨rfl, _⟩ := h; rfl) | (obtain ⟨_, rfl, _⟩ := h; rfl) | (obtain ⟨_, _, rfl, _⟩ := h; rfl) | (obtain ⟨_, _, _, rfl, _⟩ := h; rfl) | (obtain ⟨_, _, _, _, rfl, _⟩ := h; rfl) | (obtain ⟨_, _, _, _, _, rfl, _⟩ := h; rfl) | (obtain ⟨_, _, _, _, _, _, rfl, _⟩ := h; rfl)
theorem len_law_plan : ∀ ds mu Φ Ξ, sp_law_plan ds mu Φ Ξ → ds.length = 2 := by
  intro ds mu Φ Ξ h
  first | (obtain ⟨rfl, _⟩ := h; rfl) | (obtain ⟨_, rfl, _⟩ := h; rfl) | (obtain ⟨_, _, rfl, _⟩ := h; rfl) | (obtain ⟨_, _, _, rfl, _⟩ := h; rfl) | (obtain ⟨_, _, _, _, rfl, _⟩ := h; rfl) | (obtain ⟨_, _, _, _, _, rfl, _⟩ := h; rfl) | (obtain ⟨_, _, _, _, _, _, rfl, _⟩ := h; rfl)
theorem len_law_step : ∀ ds mu Φ Ξ, sp_law_step ds mu Φ Ξ → ds.length = 2 := by
  intro ds mu Φ Ξ h
  first | (obtain ⟨rfl, _⟩ := h; rfl) | (obtain ⟨_, rfl, _⟩ := h; rfl) | (obtain ⟨_, _, rfl, _⟩ := h; rfl) | (obtain ⟨_, _, _, rfl, _⟩ := h; rfl) | (obtain ⟨_, _, _, _, rfl, _⟩ := h; rfl) | (obtain ⟨_, _, _, _, _, rfl, _⟩ := h; rfl) | (obtain ⟨_, _, _, _, _, _, rfl, _⟩ := h; rfl)
theorem len_law_told : ∀ ds mu Φ Ξ, sp_law_told ds mu Φ Ξ → ds.length = 2 := by
  intro ds mu Φ Ξ h
  first | (obtain ⟨rfl, _⟩ := h; rfl) | (obtain ⟨_, rfl, _⟩ := h; rfl) | (obtain ⟨_, _, rfl, _⟩ := h; rfl) | (obtain ⟨_, _, _, rfl, _⟩ := h; rfl) | (obtain ⟨_, _, _, _, rfl, _⟩ := h; rfl) | (obtain ⟨_, _, _, _, _, rfl, _⟩ := h; rfl) | (obtain ⟨_, _, _, _, _, _, rfl, _⟩ := h; rfl)
theorem len_law_stay : ∀ ds mu Φ Ξ, sp_law_stay ds mu Φ Ξ → ds.length = 1 := by
  intro ds mu Φ Ξ h
  first | (obtain ⟨rfl, _⟩ := h; rfl) | (obtain ⟨_, rfl, _⟩ := h; rfl) | (obtain ⟨_, _, rfl, _⟩ := h; rfl) | (obtain ⟨_, _, _, rfl, _⟩ := h; rfl) | (obtain ⟨_, _, _, _, rfl, _⟩ := h; rfl) | (obtain ⟨_, _, _, _, _, rfl, _⟩ := h; rfl) | (obtain ⟨_, _, _, _, _, _, rfl, _⟩ := h; rfl)
theorem len_law_rows : ∀ ds mu Φ Ξ, sp_law_rows ds mu Φ Ξ → ds.length = 2 := by
  intro ds mu Φ Ξ h
  first | (obtain ⟨rfl, _⟩ := h; rfl) | (obtain ⟨_, rfl, _⟩ := h; rfl) | (obtain ⟨_, _, rfl, _⟩ := h; rfl) | (obtain ⟨_, _, _, rfl, _⟩ := h; rfl) | (obtain ⟨_, _, _, _, rfl, _⟩ := h; rfl) | (obtain ⟨_, _, _, _, _, rfl, _⟩ := h; rfl) | (obtain ⟨_, _, _, _, _, _, rfl, _⟩ := h; rfl)
theorem len_law_true : ∀ ds mu Φ Ξ, sp_law_true ds mu Φ Ξ → ds.length = 2 := by
  intro ds mu Φ Ξ h
  first | (obtain ⟨rfl, _⟩ := h; rfl) | (obtain ⟨_, rfl, _⟩ := h; rfl) | (obtain ⟨_, _, rfl, _⟩ := h; rfl) | (obtain ⟨_, _, _, rfl, _⟩ := h; rfl) | (obtain ⟨_, _, _, _, rfl, _⟩ := h; rfl) | (obtain ⟨_, _, _, _, _, rfl, _⟩ := h; rfl) | (obtain ⟨_, _, _, _, _, _, rfl, _⟩ := h; rfl)
theorem len_law_untrue : ∀ ds mu Φ Ξ, sp_law_untrue ds mu Φ Ξ → ds.length = 1 := by
  intro ds mu Φ Ξ h
  first | (obtain ⟨rfl, _⟩ := h; rfl) | (obtain ⟨_, rfl, _⟩ := h; rfl) | (obtain ⟨_, _, rfl, _⟩ := h; rfl) | (obtain ⟨_, _, _, rfl, _⟩ := h; rfl) | (obtain ⟨_, _, _, _, rfl, _⟩ := h; rfl) | (obtain ⟨_, _, _, _, _, rfl, _⟩ := h; rfl) | (obtain ⟨_, _, _, _, _, _, rfl, _⟩ := h; rfl)
theorem len_law_falls : ∀ ds mu Φ Ξ, sp_law_falls ds mu Φ Ξ → ds.length = 1 := by
  intro ds mu Φ Ξ h
  first | (obtain ⟨rfl, _⟩ := h; rfl) | (obtain ⟨_, rfl, _⟩ := h; rfl) | (obtain ⟨_, _, rfl, _⟩ := h; rfl) | (obtain ⟨_, _, _, rfl, _⟩ := h; rfl) | (obtain ⟨_, _, _, _, rfl, _⟩ := h; rfl) | (obtain ⟨_, _, _, _, _, rfl, _⟩ := h; rfl) | (obtain ⟨_, _, _, _, _, _, rfl, _⟩ := h; rfl)
theorem len_law_falling : ∀ ds mu Φ Ξ, sp_law_falling ds mu Φ Ξ → ds.length = 1 := by
  intro ds mu Φ Ξ h
  first | (obtain ⟨rfl, _⟩ := h; rfl) | (obtain ⟨_, rfl, _⟩ := h; rfl) | (obtain ⟨_, _, rfl, _⟩ := h; rfl) | (obtain ⟨_, _, _, rfl, _⟩ := h; rfl) | (obtain ⟨_, _, _, _, rfl, _⟩ := h; rfl) | (obtain ⟨_, _, _, _, _, rfl, _⟩ := h; rfl) | (obtain ⟨_, _, _, _, _, _, rfl, _⟩ := h; rfl)
theorem len_law_merged : ∀ ds mu Φ Ξ, sp_law_merged ds mu Φ Ξ → ds.length = 3 := by
  intro ds mu Φ Ξ h
  first | (obtain ⟨rfl, _⟩ := h; rfl) | (obtain ⟨_, rfl, _⟩ := h; rfl) | (obtain ⟨_, _, rfl, _⟩ := h; rfl) | (obtain ⟨_, _, _, rfl, _⟩ := h; rfl) | (obtain ⟨_, _, _, _, rfl, _⟩ := h; rfl) | (obtain ⟨_, _, _, _, _, rfl, _⟩ := h; rfl) | (obtain ⟨_, _, _, _, _, _, rfl, _⟩ := h; rfl)
theorem len_law_right : ∀ ds mu Φ Ξ, sp_law_right ds mu Φ Ξ → ds.length = 2 := by
  intro ds mu Φ Ξ h
  first | (obtain ⟨rfl, _⟩ := h; rfl) | (obtain ⟨_, rfl, _⟩ := h; rfl) | (obtain ⟨_, _, rfl, _⟩ := h; rfl) | (obtain ⟨_, _, _, rfl, _⟩ := h; rfl) | (obtain ⟨_, _, _, _, rfl, _⟩ := h; rfl) | (obtain ⟨_, _, _, _, _, rfl, _⟩ := h; rfl) | (obtain ⟨_, _, _, _, _, _, rfl, _⟩ := h; rfl)
theorem len_law : ∀ ds mu Φ Ξ, sp_law ds mu Φ Ξ → ds.length = 1 := by
  intro ds mu Φ Ξ h
  first | (obtain ⟨rfl, _⟩ := h; rfl) | (obtain ⟨_, rfl, _⟩ := h; rfl) | (obtain ⟨_, _, rfl, _⟩ := h; rfl) | (obtain ⟨_, _, _, rfl, _⟩ := h; rfl) | (obtain ⟨_, _, _, _, rfl, _⟩ := h; rfl) | (obtain ⟨_, _, _, _, _, rfl, _⟩ := h; rfl) | (obtain ⟨_, _, _, _, _, _, rfl, _⟩ := h; rfl)
theorem sc_law_try0 : FnScope NgT ["call_so"] (defScope (topS 59)) := ⟨rfl, rfl, rfl, by decide +kernel, rfl, by decide +kernel, by decide +kernel⟩
theorem clT {mg : Str → Option Value} {x : Str} {a : Addr} (h : mg x = some (.ref a)) : mg x = some (cl mg x) := by
  unfold cl
  rw [h]
  rfl
theorem ok0_law_same {P : Program} {w : World} {K : PySem.W.Frag} {mg : Str → Option Value} {base : Heap} {T : List (Addr × Str)} {k : Nat} (F : Df K mg "_law_same" (topS 57) ["told", "due"]) : Cal P w K mg base CX0 (k + 1) "_law_same" ["told", "due"] (toSp T (sp_law_same 0)) := ok0_of F (fun ds mu Φ Ξ ⟨d, _, h, _⟩ => by cases h)
abbrev qL : Str := (envOfC "law" (defScope s_law) 0 0 (.ref 0)).qual
theorem fn_law {P : Program} {w : World} {K : PySem.W.Frag} {mg : Str → Option Value} {base : Heap} {T : List (Addr × Str)} {fd : FuncData} (H : HeadS K mg fa fn ex) (lam_law : LamE base mg T qL (He.codeOf K ("law", none))) (DF : DfLx K mg "law" s_law ["script"] (He.codeOf K ("law", none)) (He.ga K "law") fd) : FnOk P w K mg base CX0 11 (He.ga K "law") fd ["script"] (toSp T sp_law) := by
  have t : Tx K mg := ⟨H.free 67, H.free 68, H.free 69, H.free 70, H.free 71, H.free 72, H.free 73, H.free 74, H.free 75, H.free 76, H.free 77, H.free 78, H.free 79, H.free 80, H.free 81, H.free 82, H.cls 59, H.cls 60, H.cls 57, H.cls 55, H.cls 58, H.cls 56, H.cls 61, H.cls 64, H.cls 65, H.cls 63, H.exF 54 89, H.exF 53 90, H.exF 52 91, H.exF 62 92, H.int 83, H.int 84, H.int 85, H.int 86, H.int 87, H.int 88⟩
  have hkin : ∀ n ∈ kinNames, mg n = some (.ref (He.ga K n)) := by
    intro n hn
    simp only [kinNames, List.mem_cons, List.not_mem_nil, or_false] at hn
    rcases hn with rfl | rfl | rfl | rfl | rfl | rfl | rfl | rfl | rfl | rfl | rfl | rfl | rfl | rfl
    · exact H.glo 52
    · exact H.glo 53
    · exact H.glo 54
    · exact H.glo 55
    · exact H.glo 56
    · exact H.glo 57
    · exact H.glo 58
    · exact H.glo 59
    · exact H.glo 60
    · exact H.glo 61
    · exact H.glo 62
    · exact H.glo 63
    · exact H.glo 64
    · exact H.glo 65
  have hex : ex K = true := H.more
  unfold ex at hex
  simp only [Bool.and_eq_true] at hex
  obtain ⟨⟨⟨⟨he_0, he_1⟩, he_2⟩, he_3⟩, hnoL⟩ := hex
  have z_InvalidCount : Rz K mg "InvalidCount" "count +" := raisB_ok he_0 (H.glo 54) (H.glo 65) (H.glo 66) hkin (by decide +kernel)
  have z_InvalidLevel : Rz K mg "InvalidLevel" "level +" := raisB_ok he_1 (H.glo 53) (H.glo 65) (H.glo 66) hkin (by decide +kernel)
  have z_InvalidPlan : Rz K mg "InvalidPlan" "plan +" := raisB_ok he_2 (H.glo 52) (H.glo 65) (H.glo 66) hkin (by decide +kernel)
  have z_NotFalling : Rz K mg "NotFalling" "falling +" := raisB_ok he_3 (H.glo 62) (H.glo 65) (H.glo 66) hkin (by decide +kernel)
  have c_is_within := ok_is_within (P := P) (w := w) (base := base) (T := T) t (H.df 0 0 (fun _ _ _ _ _ _ us hl => match us, hl with | [_, _, _], _ => rfl))  len_is_within (fun _ _ _ _ h => h) rd_is_within
  have c_divisor := ok_divisor (P := P) (w := w) (base := base) (T := T) t (H.df 1 1 (fun _ _ _ _ _ _ us hl => match us, hl with | [_, _], _ => rfl))  len_divisor (fun _ _ _ _ h => h) rd_divisor
  have c_fraction := ok_fraction (P := P) (w := w) (base := base) (T := T) t (H.df 2 2 (fun _ _ _ _ _ _ us hl => match us, hl with | [_, _], _ => rfl)) c_divisor len_fraction (fun _ _ _ _ h => h) rd_fraction
  have c_plus := ok_plus (P := P) (w := w) (base := base) (T := T) t (H.df 3 3 (fun _ _ _ _ _ _ us hl => match us, hl with | [_, _], _ => rfl)) c_fraction len_plus (fun _ _ _ _ h => h) rd_plus
  have c_minus := ok_minus (P := P) (w := w) (base := base) (T := T) t (H.df 4 4 (fun _ _ _ _ _ _ us hl => match us, hl with | [_, _], _ => rfl)) c_fraction len_minus (fun _ _ _ _ h => h) rd_minus
  have c_times := ok_times (P := P) (w := w) (base := base) (T := T) t (H.df 5 5 (fun _ _ _ _ _ _ us hl => match us, hl with | [_, _], _ => rfl)) c_fraction len_times (fun _ _ _ _ h => h) rd_times
  have c_inverse := ok_inverse (P := P) (w := w) (base := base) (T := T) t (H.df 6 6 (fun _ _ _ _ _ _ us hl => match us, hl with | [_], _ => rfl)) c_fraction len_inverse (fun _ _ _ _ h => h) rd_inverse
  have c_power := ok_power (P := P) (w := w) (base := base) (T := T) t (H.df 7 7 (fun _ _ _ _ _ _ us hl => match us, hl with | [_, _], _ => rfl)) c_times len_power (fun _ _ _ _ h => h) rd_power
  have c_is_less := ok_is_less (P := P) (w := w) (base := base) (T := T) t (H.df 8 8 (fun _ _ _ _ _ _ us hl => match us, hl with | [_, _], _ => rfl))  len_is_less (fun _ _ _ _ h => h) rd_is_less
  have c_is_fraction := ok_is_fraction (P := P) (w := w) (base := base) (T := T) t (H.df 9 9 (fun _ _ _ _ _ _ us hl => match us, hl with | [_], _ => rfl)) c_divisor c_is_within len_is_fraction (fun _ _ _ _ h => h) rd_is_fraction
  have c_is_share := ok_is_share (P := P) (w := w) (base := base) (T := T) t (H.df 10 10 (fun _ _ _ _ _ _ us hl => match us, hl with | [_], _ => rfl)) c_is_fraction len_is_share (fun _ _ _ _ h => h) rd_is_share
  have c_is_head_pair := ok_is_head_pair (P := P) (w := w) (base := base) (T := T) t (H.df 11 11 (fun _ _ _ _ _ _ us hl => match us, hl with | [_], _ => rfl)) c_is_share c_is_fraction len_is_head_pair (fun _ _ _ _ h => h) rd_is_head_pair
  have c_is_tail := ok_is_tail (P := P) (w := w) (base := base) (T := T) t (H.df 12 12 (fun _ _ _ _ _ _ us hl => match us, hl with | [_], _ => rfl)) c_is_fraction c_is_share len_is_tail (fun _ _ _ _ h => h) rd_is_tail
  have c_is_plan_value := ok_is_plan_value (P := P) (w := w) (base := base) (T := T) t (H.df 13 13 (fun _ _ _ _ _ _ us hl => match us, hl with | [_], _ => rfl)) c_is_head_pair c_is_tail len_is_plan_value (fun _ _ _ _ h => h) rd_is_plan_value
  have c_need_plan := ok_need_plan (P := P) (w := w) (base := base) (T := T) t (H.df 14 14 (fun _ _ _ _ _ _ us hl => match us, hl with | [_], _ => rfl)) c_is_plan_value (len_need_plan mg) (rd_need_plan mg)
  have c_need_level := ok_need_level (P := P) (w := w) (base := base) (T := T) t (H.df 15 15 (fun _ _ _ _ _ _ us hl => match us, hl with | [_], _ => rfl)) c_is_within (len_need_level mg) (rd_need_level mg)
  have c_need_count := ok_need_count (P := P) (w := w) (base := base) (T := T) t (H.df 16 16 (fun _ _ _ _ _ _ us hl => match us, hl with | [_, _], _ => rfl)) c_is_within (len_need_count mg) (rd_need_count mg)
  have c_step_of := ok_step_of (P := P) (w := w) (base := base) (T := T) t (H.df 17 17 (fun _ _ _ _ _ _ us hl => match us, hl with | [_, _], _ => rfl)) c_times c_power len_step_of (fun _ _ _ _ h => h) rd_step_of
  have c_is_falling := ok_is_falling (P := P) (w := w) (base := base) (T := T) t (H.df 18 18 (fun _ _ _ _ _ _ us hl => match us, hl with | [_], _ => rfl)) c_is_less c_step_of len_is_falling (fun _ _ _ _ h => h) rd_is_falling
  have c_led_on := ok_led_on (P := P) (w := w) (base := base) (T := T) t (H.df 19 19 (fun _ _ _ _ _ _ us hl => match us, hl with | [_, _], _ => rfl)) c_plus c_minus c_times c_step_of len_led_on (fun _ _ _ _ h => h) rd_led_on
  have c_chances_by := ok_chances_by (P := P) (w := w) (base := base) (T := T) t (H.df 20 20 (fun _ _ _ _ _ _ us hl => match us, hl with | [_, _, _], _ => rfl)) c_led_on len_chances_by (fun _ _ _ _ h => h) rd_chances_by
  have c_chances := ok_chances (P := P) (w := w) (base := base) (T := T) t (H.df 21 21 (fun _ _ _ _ _ _ us hl => match us, hl with | [_, _], _ => rfl)) c_chances_by c_need_count c_need_plan (len_chances mg) (rd_chances mg)
  have c_merged_by := ok_merged_by (P := P) (w := w) (base := base) (T := T) t (H.df 22 22 (fun _ _ _ _ _ _ us hl => match us, hl with | [_, _, _], _ => rfl)) c_plus c_minus c_times c_step_of c_inverse len_merged_by (fun _ _ _ _ h => h) rd_merged_by
  have c_need_falling := ok_need_falling (P := P) (w := w) (base := base) (T := T) t (H.df 23 23 (fun _ _ _ _ _ _ us hl => match us, hl with | [_], _ => rfl)) c_is_falling c_need_plan (len_need_falling mg) (rd_need_falling mg)
  have c_merged := ok_merged (P := P) (w := w) (base := base) (T := T) t (H.df 24 24 (fun _ _ _ _ _ _ us hl => match us, hl with | [_, _, _], _ => rfl)) c_merged_by c_need_level c_need_falling (len_merged mg) (rd_merged mg)
  have c_merged_chances := ok_merged_chances (P := P) (w := w) (base := base) (T := T) t (H.df 25 25 (fun _ _ _ _ _ _ us hl => match us, hl with | [_, _, _], _ => rfl)) c_chances_by c_merged_by c_plus c_times c_need_count c_need_falling (len_merged_chances mg) (rd_merged_chances mg)
  have c_law_deck := ok_law_deck (P := P) (w := w) (base := base) (T := T) t (H.df 26 26 (fun _ _ _ _ _ _ us hl => match us, hl with | [_, _], _ => rfl))  len_law_deck (fun _ _ _ _ h => h) rd_law_deck
  have c_law_pick := ok_law_pick (P := P) (w := w) (base := base) (T := T) t (H.df 27 27 (fun _ _ _ _ _ _ us hl => match us, hl with | [_, _], _ => rfl))  len_law_pick (fun _ _ _ _ h => h) rd_law_pick
  have c_law_one := ok_law_one (P := P) (w := w) (base := base) (T := T) t (H.df 28 28 (fun _ _ _ _ _ _ us hl => match us, hl with | [_, _], _ => rfl)) c_law_pick len_law_one (fun _ _ _ _ h => h) rd_law_one
  have c_law_sort := ok_law_sort (P := P) (w := w) (base := base) (T := T) t (H.df 29 29 (fun _ _ _ _ _ _ us hl => match us, hl with | [_], _ => rfl))  len_law_sort (fun _ _ _ _ h => h) rd_law_sort
  have c_law_same_0 : Cal P w K mg base CX0 1 "_law_same" ["told", "due"] (toSp T (sp_law_same 0)) := ok0_law_same (H.df 30 30 (fun _ _ _ _ _ _ us hl => match us, hl with | [_, _], _ => rfl))
  have c_law_same_1 := ok_law_same (P := P) (w := w) (base := base) (T := T) (n := 0) (j := 1) (by decide) t (H.df 30 30 (fun _ _ _ _ _ _ us hl => match us, hl with | [_, _], _ => rfl)) c_law_sort c_law_same_0 (len_law_same 0) (fun _ _ _ _ h => h) (rd_law_same 0)
  have c_law_same_2 := ok_law_same (P := P) (w := w) (base := base) (T := T) (n := 1) (j := 2) (by decide) t (H.df 30 30 (fun _ _ _ _ _ _ us hl => match us, hl with | [_, _], _ => rfl)) c_law_sort c_law_same_1 (len_law_same 1) (fun _ _ _ _ h => h) (rd_law_same 1)
  have c_law_same_3 := ok_law_same (P := P) (w := w) (base := base) (T := T) (n := 2) (j := 3) (by decide) t (H.df 30 30 (fun _ _ _ _ _ _ us hl => match us, hl with | [_, _], _ => rfl)) c_law_sort c_law_same_2 (len_law_same 2) (fun _ _ _ _ h => h) (rd_law_same 2)
  have c_law_same_4 := ok_law_same (P := P) (w := w) (base := base) (T := T) (n := 3) (j := 4) (by decide) t (H.df 30 30 (fun _ _ _ _ _ _ us hl => match us, hl with | [_, _], _ => rfl)) c_law_sort c_law_same_3 (len_law_same 3) (fun _ _ _ _ h => h) (rd_law_same 3)
  have c_law_same_5 := ok_law_same (P := P) (w := w) (base := base) (T := T) (n := 4) (j := 5) (by decide) t (H.df 30 30 (fun _ _ _ _ _ _ us hl => match us, hl with | [_, _], _ => rfl)) c_law_sort c_law_same_4 (len_law_same 4) (fun _ _ _ _ h => h) (rd_law_same 4)
  have c_law_same_6 := ok_law_same (P := P) (w := w) (base := base) (T := T) (n := 5) (j := 6) (by decide) t (H.df 30 30 (fun _ _ _ _ _ _ us hl => match us, hl with | [_, _], _ => rfl)) c_law_sort c_law_same_5 (len_law_same 5) (fun _ _ _ _ h => h) (rd_law_same 5)
  have c_law_same := c_law_same_6
  have k_law_kin : KinP P w K mg base T 1 "_law_kin" "e" (KinR K mg) := kinP_of (H.df 31 31 (fun _ _ _ _ _ _ us hl => match us, hl with | [_], _ => rfl)) sc_law_kin (fun hC hz hf h1 => okb_law_kin t hC hz hf h1) (rd_law_kin K mg)
  have y_law_try : TryE P w K mg base T (KinR K mg) (cl mg "TooMany") (cl mg "ClimbError") "_law_try" := by
    obtain ⟨fdt, Ft⟩ := H.fn_ 32 (x := "_law_try")
    exact ⟨_, fdt, topS 59, H.glo 32, Ft, Ft.binds (fun _ _ _ _ _ _ us hl => match us, hl with | [_], _ => rfl), sc_law_try0, Or.inl rfl, fun X h1 h2 h3 h4 h5 hr cdg q => by
      subst h1 h2 h3 h4 h5
      exact try_gives hr k_law_kin sc_law_try0 rfl rfl rfl rfl rfl rfl (clT (H.glo 65)) (clT (H.glo 66))⟩
  have c_law_known := ok_law_known (P := P) (w := w) (base := base) (T := T) t (H.df 33 33 (fun _ _ _ _ _ _ us hl => match us, hl with | [], _ => rfl))  len_law_known (fun _ _ _ _ h => h) rd_law_known
  have c_law_shared := ok_law_shared (P := P) (w := w) (base := base) (T := T) t (H.df 34 34 (fun _ _ _ _ _ _ us hl => match us, hl with | [_, _], _ => rfl))  len_law_shared (fun _ _ _ _ h => h) rd_law_shared
  have c_law_low := ok_law_low (P := P) (w := w) (base := base) (T := T) t (H.df 35 35 (fun _ _ _ _ _ _ us hl => match us, hl with | [_, _], _ => rfl)) c_law_shared len_law_low (fun _ _ _ _ h => h) rd_law_low
  have c_law_sum := ok_law_sum (P := P) (w := w) (base := base) (T := T) t (H.df 36 36 (fun _ _ _ _ _ _ us hl => match us, hl with | [_], _ => rfl)) c_law_low len_law_sum (fun _ _ _ _ h => h) rd_law_sum
  have c_law_times := ok_law_times (P := P) (w := w) (base := base) (T := T) t (H.df 37 37 (fun _ _ _ _ _ _ us hl => match us, hl with | [_, _], _ => rfl)) c_law_low len_law_times (fun _ _ _ _ h => h) rd_law_times
  have c_law_share := ok_law_share (P := P) (w := w) (base := base) (T := T) t (H.df 38 38 (fun _ _ _ _ _ _ us hl => match us, hl with | [_, _], _ => rfl)) c_law_low c_law_pick len_law_share (fun _ _ _ _ h => h) rd_law_share
  have c_law_gain := ok_law_gain (P := P) (w := w) (base := base) (T := T) t (H.df 39 39 (fun _ _ _ _ _ _ us hl => match us, hl with | [_, _], _ => rfl)) c_law_low c_law_pick c_law_shared len_law_gain (fun _ _ _ _ h => h) rd_law_gain
  have c_law_plan := ok_law_plan (P := P) (w := w) (base := base) (T := T) t (H.df 40 40 (fun _ _ _ _ _ _ us hl => match us, hl with | [_, _], _ => rfl)) c_law_gain c_law_pick c_law_share len_law_plan (fun _ _ _ _ h => h) rd_law_plan
  have c_law_step := ok_law_step (P := P) (w := w) (base := base) (T := T) t (H.df 41 41 (fun _ _ _ _ _ _ us hl => match us, hl with | [_, _], _ => rfl)) c_law_times len_law_step (fun _ _ _ _ h => h) rd_law_step
  have c_law_told := ok_law_told (P := P) (w := w) (base := base) (T := T) t (H.df 42 42 (fun _ _ _ _ _ _ us hl => match us, hl with | [_, _], _ => rfl)) c_law_sum c_law_step len_law_told (fun _ _ _ _ h => h) rd_law_told
  have c_law_stay := ok_law_stay (P := P) (w := w) (base := base) (T := T) t (H.df 43 43 (fun _ _ _ _ _ _ us hl => match us, hl with | [_], _ => rfl))  len_law_stay (fun _ _ _ _ h => h) rd_law_stay
  have c_law_rows := ok_law_rows (P := P) (w := w) (base := base) (T := T) t (H.df 44 44 (fun _ _ _ _ _ _ us hl => match us, hl with | [_, _], _ => rfl)) c_law_sum c_law_times c_law_stay c_law_step len_law_rows (fun _ _ _ _ h => h) rd_law_rows
  have c_law_true := ok_law_true (P := P) (w := w) (base := base) (T := T) t (H.df 45 45 (fun _ _ _ _ _ _ us hl => match us, hl with | [_, _], _ => rfl)) c_law_step len_law_true (fun _ _ _ _ h => h) rd_law_true
  have c_law_untrue := ok_law_untrue (P := P) (w := w) (base := base) (T := T) t (H.df 46 46 (fun _ _ _ _ _ _ us hl => match us, hl with | [_], _ => rfl)) c_law_true len_law_untrue (fun _ _ _ _ h => h) rd_law_untrue
  have c_law_falls := ok_law_falls (P := P) (w := w) (base := base) (T := T) t (H.df 47 47 (fun _ _ _ _ _ _ us hl => match us, hl with | [_], _ => rfl)) c_law_step len_law_falls (fun _ _ _ _ h => h) rd_law_falls
  have c_law_falling := ok_law_falling (P := P) (w := w) (base := base) (T := T) t (H.df 48 48 (fun _ _ _ _ _ _ us hl => match us, hl with | [_], _ => rfl)) c_law_share c_law_times c_law_one c_law_pick len_law_falling (fun _ _ _ _ h => h) rd_law_falling
  have c_law_merged := ok_law_merged (P := P) (w := w) (base := base) (T := T) t (H.df 49 49 (fun _ _ _ _ _ _ us hl => match us, hl with | [_, _, _], _ => rfl)) c_law_stay c_law_sum c_law_times c_law_step len_law_merged (fun _ _ _ _ h => h) rd_law_merged
  have c_law_right := ok_law_right (P := P) (w := w) (base := base) (T := T) t (H.df 50 50 (fun _ _ _ _ _ _ us hl => match us, hl with | [_, _], _ => rfl)) c_law_same c_merged_chances c_law_rows c_law_pick c_law_untrue c_law_sum c_law_told c_law_times c_merged c_law_merged len_law_right (fun _ _ _ _ h => h) (rd_law_right mg)
  have lamE : LamE base mg T qL (He.codeOf K ("law", none)) := lam_law
  have c_law := ok_law (P := P) (w := w) (base := base) (T := T) t DF c_merged_chances c_chances c_merged c_law_known c_law_falls c_law_plan c_law_right c_law_falling c_law_deck y_law_try lamE len_law (fun _ _ _ _ h => h) (rd_law K mg (z_InvalidPlan) (z_InvalidLevel) (z_InvalidCount) (z_NotFalling))
  exact c_law
theorem hsp_law : ∀ (ns : List Int) mu (Φ : D → MS → Prop), ns.length ≤ 63 → Φ (.bl true) mu → sp_law [.scr ns] mu Φ X0 := fun ns mu Φ hl h => ⟨ns, rfl, hl, h⟩
theorem ex_noL {K : PySem.W.Frag} (h : ex K = true) : noL K = true := by
  unfold ex at h
  rw [Bool.and_eq_true] at h
  exact h.2
end DL
open PySem PySem.W PySem.Calls PyProof.Rows
set_option maxRecDepth 100000 in
set_option maxHeartbeats 0 in
theorem PySem.Challenge.cw_chanceclimb_k05_whole_registers_put_toge_holds : PySem.Challenge.rw_chanceclimb_k05_whole_registers_put_toge.Holds := by
  w_on; o_law
  refine HandSHeadRun.head_any (r := OpenLaw.row PySem.Challenge.rw_chanceclimb_k05_whole_registers_put_toge) (q := view (OpenLaw.row PySem.Challenge.rw_chanceclimb_k05_whole_registers_put_toge).prog [78]) (H := DL.hk) (ob := DL.ob) (M := 12000) (loose := DL.names) (d := HandSHeadRun.topDef (OpenLaw.row PySem.Challenge.rw_chanceclimb_k05_whole_registers_put_toge).prog 78) (kwd := []) DL.ob_eq
    (by kernel_rfl) (fun s => by kernel_rfl) DL.run (by kernel_rfl) (by kernel_rfl) (by kernel_rfl) (by rfl) (by first | assumption | decide +kernel) (by decide +kernel) ⟨rfl, rfl, rfl, rfl, rfl, by decide +kernel⟩ ?hw ?hc
  case hw => w_witness2
  case hc =>
    refine LamX.walk_ofTsE (l := PySem.Challenge.rw_chanceclimb_k05_whole_registers_put_toge) (n := 63) (k := 11) (x := "script") (CX := fun _ => L2.CX0) rfl (by decide) (by kernel_rfl) ⟨rfl, by decide, by decide⟩ ?F (fun _ _ _ _ _ z => z)
    intro w mg fA h Y G hmg0
    obtain ⟨K, KX, c⟩ := Y
    have hmg : mg ("law" : PySem.Str) = some (.ref fA) := by
      have e : (HandSHeadRun.topDef (OpenLaw.row PySem.Challenge.rw_chanceclimb_k05_whole_registers_put_toge).prog 78).name = ("law" : PySem.Str) := by kernel_rfl
      rw [← e]
      exact hmg0
    exact ⟨K, KX, DL.lawAt (S := DL.sp_law) (i := 51) (j := 51) (st := DL.s_law) (q := DL.qL) DL.hsp_law KX c DL.ex_noL hmg G rfl rfl (fun _ _ _ _ _ _ us hl => match us, hl with | [_], _ => rfl) (fun base fd HS lam DF => DL.fn_law HS lam DF)⟩
