import PyProof.Rows.All
import HandS.ForMost
import HandS.TupAny
import HandS.IsInst
import HandS.Style
import HandS.Flow
import HandS.Wide
import HandS.TupMul
import KE.DataEq
import KE.DataCmp
import PyProof.StrOps2
import HandS.TupLen
import HandS.Conv
import HandS.Walk
import HandS.Zip
import KE.GoesEnum
import HandS.Small
import HandS.Text
import KE.SortData
import HandS.SetBool
import HandS.SetFor
import HandS.SetKeys
import KE.DataMinMax
import PyProof.Claim2Refuses
import HandS.Iter
import HandS.DictComp
import HandS.More
import PyProof.ListStr
import KE.KDictPairs
import HandS.Defaults
import HandS.Ends
import HandS.HeadEnd
import HandS.HeadHook2
import HandS.Head0
import HandS.Head1
import HandS.Head2
import HandS.HeadHook1
import PySem.Challenge.RW_rigeyes_k17_whole_sight
set_option Elab.async false
set_option linter.all false
set_option maxRecDepth 100000
set_option maxHeartbeats 0
/-! RE1: plain values as trees, and how an abstract heap of the hand layer bears them. -/
namespace RE
open PySem PySem.Spec PyProof.Rows L2

/-- plain values: trees, no heap. scr: the script; fn: a def of the module, by name -/
inductive D where
  | non | bl (b : Bool) | int (i : Int) | str (s : Str) | tup (xs : List D) | lst (xs : List D)
  | dic (t : Bool) (kvs : List (D × D)) | scr (ns : List Int) | fn (f : Str)

/-- a dict's key as a tree -/
def keyD : Key → D
  | .inl i => .int i
  | .inr s => .str s
/-- the pairs of the dict at a: keys as trees, values as they stand -/
def HD (t : Bool) (H : Hp) (a : Addr) (ps : List (D × V)) : Prop :=
  match t with
  | false => ∃ ks : List (Key × V), Rd H a (.dK ks) ∧ ps = ks.map fun q => (keyD q.1, q.2)
  | true => ∃ ks : List (List Key × V), Rd H a (.dT ks) ∧ ps = ks.map fun q => (.tup (q.1.map keyD), q.2)

mutual
/-- v bears d in H; every list and dict in it stands at a place that P allows -/
def Rep (P : Addr → Prop) (H : Hp) : D → V → Prop
  | .non, v => v = .non
  | .bl b, v => v = .bl b
  | .int i, v => v = .int i
  | .str s, v => v = .str s
  | .tup ds, v => ∃ a vs, v = .ref a ∧ H a = some (.tup vs) ∧ RepL P H ds vs
  | .lst ds, v => ∃ a vs, v = .ref a ∧ P a ∧ H a = some (.lst vs) ∧ RepL P H ds vs
  | .dic t kvs, v => ∃ a ps, v = .ref a ∧ P a ∧ HD t H a ps ∧ RepKV P H kvs ps
  | .scr ns, v => ∃ a o, v = .ref a ∧ H a = some (.frz o (.lst (ns.map V.int)))
  | .fn _, _ => False
def RepL (P : Addr → Prop) (H : Hp) : List D → List V → Prop
  | [], vs => vs = []
  | d :: ds, vs => ∃ v r, vs = v :: r ∧ Rep P H d v ∧ RepL P H ds r
def RepKV (P : Addr → Prop) (H : Hp) : List (D × D) → List (D × V) → Prop
  | [], ps => ps = []
  | (k, d) :: kvs, ps => ∃ v r, ps = (k, v) :: r ∧ Rep P H d v ∧ RepKV P H kvs r
end

theorem HD.same {t : Bool} {H H' : Hp} {a : Addr} {ps : List (D × V)} (s : Same H H') (h : HD t H a ps) : HD t H' a ps := by
  cases t
  · obtain ⟨ks, (r | ⟨o, r⟩), e⟩ := h
    · exact ⟨ks, .inl (s _ _ r), e⟩
    · exact ⟨ks, .inr ⟨o, s _ _ r⟩, e⟩
  · obtain ⟨ks, (r | ⟨o, r⟩), e⟩ := h
    · exact ⟨ks, .inl (s _ _ r), e⟩
    · exact ⟨ks, .inr ⟨o, s _ _ r⟩, e⟩
theorem HD.some {t : Bool} {H : Hp} {a : Addr} {ps : List (D × V)} (h : HD t H a ps) : H a ≠ none := by
  cases t <;> obtain ⟨ks, (r | ⟨o, r⟩), e⟩ := h <;> (rw [r]; simp)

mutual
theorem Rep.mono {P P' : Addr → Prop} {H H' : Hp} (s : Same H H') (hp : ∀ a, H a ≠ none → P a → P' a) : ∀ (d : D) (v : V), Rep P H d v → Rep P' H' d v
  | .non, v, h => by unfold Rep at h ⊢; exact h
  | .bl b, v, h => by unfold Rep at h ⊢; exact h
  | .int i, v, h => by unfold Rep at h ⊢; exact h
  | .str x, v, h => by unfold Rep at h ⊢; exact h
  | .tup ds, v, h => by
    unfold Rep at h ⊢
    obtain ⟨a, vs, e, h1, h2⟩ := h
    exact ⟨a, vs, e, s _ _ h1, RepL.mono s hp ds vs h2⟩
  | .lst ds, v, h => by
    unfold Rep at h ⊢
    obtain ⟨a, vs, e, h0, h1, h2⟩ := h
    exact ⟨a, vs, e, hp a (by rw [h1]; simp) h0, s _ _ h1, RepL.mono s hp ds vs h2⟩
  | .dic t kvs, v, h => by
    unfold Rep at h ⊢
    obtain ⟨a, ps, e, h0, h1, h2⟩ := h
    exact ⟨a, ps, e, hp a h1.some h0, h1.same s, RepKV.mono s hp kvs ps h2⟩
  | .scr ns, v, h => by
    unfold Rep at h ⊢
    obtain ⟨a, o, e, h1⟩ := h
    exact ⟨a, o, e, s _ _ h1⟩
  | .fn f, v, h => by unfold Rep at h; exact h.elim
theorem RepL.mono {P P' : Addr → Prop} {H H' : Hp} (s : Same H H') (hp : ∀ a, H a ≠ none → P a → P' a) : ∀ (ds : List D) (vs : List V), RepL P H ds vs → RepL P' H' ds vs
  | [], vs, h => by unfold RepL at h ⊢; exact h
  | d :: ds, vs, h => by
    unfold RepL at h ⊢
    obtain ⟨v, r, e, h1, h2⟩ := h
    exact ⟨v, r, e, Rep.mono s hp d v h1, RepL.mono s hp ds r h2⟩
theorem RepKV.mono {P P' : Addr → Prop} {H H' : Hp} (s : Same H H') (hp : ∀ a, H a ≠ none → P a → P' a) : ∀ (kvs : List (D × D)) (ps : List (D × V)), RepKV P H kvs ps → RepKV P' H' kvs ps
  | [], ps, h => by unfold RepKV at h ⊢; exact h
  | (k, d) :: kvs, ps, h => by
    unfold RepKV at h ⊢
    obtain ⟨v, r, e, h1, h2⟩ := h
    exact ⟨v, r, e, Rep.mono s hp d v h1, RepKV.mono s hp kvs r h2⟩
end
theorem Rep.same {P : Addr → Prop} {H H' : Hp} (s : Same H H') {d : D} {v : V} (h : Rep P H d v) : Rep P H' d v := Rep.mono s (fun _ _ p => p) d v h
theorem RepL.same {P : Addr → Prop} {H H' : Hp} (s : Same H H') {d : List D} {v : List V} (h : RepL P H d v) : RepL P H' d v := RepL.mono s (fun _ _ p => p) d v h
theorem RepKV.same {P : Addr → Prop} {H H' : Hp} (s : Same H H') {d : List (D × D)} {v : List (D × V)} (h : RepKV P H d v) : RepKV P H' d v := RepKV.mono s (fun _ _ p => p) d v h
theorem Rep.weak {P P' : Addr → Prop} {H : Hp} (hp : ∀ a, P a → P' a) {d : D} {v : V} (h : Rep P H d v) : Rep P' H d v := Rep.mono (Same.refl H) (fun a _ p => hp a p) d v h
theorem RepL.weak {P P' : Addr → Prop} {H : Hp} (hp : ∀ a, P a → P' a) {d : List D} {v : List V} (h : RepL P H d v) : RepL P' H d v := RepL.mono (Same.refl H) (fun a _ p => hp a p) d v h
theorem RepKV.weak {P P' : Addr → Prop} {H : Hp} (hp : ∀ a, P a → P' a) {d : List (D × D)} {v : List (D × V)} (h : RepKV P H d v) : RepKV P' H d v := RepKV.mono (Same.refl H) (fun a _ p => hp a p) d v h
/-- a place where nothing stands is not among those that bear it -/
theorem Rep.avoid {P : Addr → Prop} {H : Hp} {a : Addr} (n : H a = none) {d : D} {v : V} (h : Rep P H d v) : Rep (fun b => P b ∧ b ≠ a) H d v :=
  Rep.mono (Same.refl H) (fun b hb p => ⟨p, fun e => hb (e ▸ n)⟩) d v h
theorem RepL.avoid {P : Addr → Prop} {H : Hp} {a : Addr} (n : H a = none) {d : List D} {v : List V} (h : RepL P H d v) : RepL (fun b => P b ∧ b ≠ a) H d v :=
  RepL.mono (Same.refl H) (fun b hb p => ⟨p, fun e => hb (e ▸ n)⟩) d v h
theorem RepKV.avoid {P : Addr → Prop} {H : Hp} {a : Addr} (n : H a = none) {d : List (D × D)} {v : List (D × V)} (h : RepKV P H d v) : RepKV (fun b => P b ∧ b ≠ a) H d v :=
  RepKV.mono (Same.refl H) (fun b hb p => ⟨p, fun e => hb (e ▸ n)⟩) d v h

/-- an object that may change: a list or a dict (not locked) -/
def Chg : Option HO → Prop
  | some (.lst _) => True
  | some (.dK _) => True
  | some (.dT _) => True
  | _ => False
theorem Rd.upd_ne {H : Hp} {a b : Addr} {o u : HO} (h : Rd H b u) (ne : b ≠ a) : Rd (upd H a o) b u := by
  rcases h with h | ⟨x, h⟩
  · exact .inl (by rw [L2.upd_ne ne]; exact h)
  · exact .inr ⟨x, by rw [L2.upd_ne ne]; exact h⟩
theorem HD.upd_ne {t : Bool} {H : Hp} {a b : Addr} {o : HO} {ps : List (D × V)} (h : HD t H b ps) (ne : b ≠ a) : HD t (upd H a o) b ps := by
  cases t <;> obtain ⟨ks, r, e⟩ := h <;> exact ⟨ks, Rd.upd_ne r ne, e⟩
mutual
/-- a list or dict that is not among those that bear it is changed -/
theorem Rep.chg {P : Addr → Prop} {H : Hp} {a : Addr} {o : HO} (c : Chg (H a)) (np : ¬ P a) : ∀ (d : D) (v : V), Rep P H d v → Rep P (upd H a o) d v
  | .non, v, h => by unfold Rep at h ⊢; exact h
  | .bl b, v, h => by unfold Rep at h ⊢; exact h
  | .int i, v, h => by unfold Rep at h ⊢; exact h
  | .str x, v, h => by unfold Rep at h ⊢; exact h
  | .tup ds, v, h => by
    unfold Rep at h ⊢
    obtain ⟨b, vs, e, h1, h2⟩ := h
    refine ⟨b, vs, e, ?_, RepL.chg c np ds vs h2⟩
    rw [upd_ne (fun q => by rw [q] at h1; rw [h1] at c; exact c)]; exact h1
  | .lst ds, v, h => by
    unfold Rep at h ⊢
    obtain ⟨b, vs, e, h0, h1, h2⟩ := h
    refine ⟨b, vs, e, h0, ?_, RepL.chg c np ds vs h2⟩
    rw [upd_ne (by intro q; subst q; exact np h0)]; exact h1
  | .dic t kvs, v, h => by
    unfold Rep at h ⊢
    obtain ⟨b, ps, e, h0, h1, h2⟩ := h
    exact ⟨b, ps, e, h0, h1.upd_ne (by intro q; subst q; exact np h0), RepKV.chg c np kvs ps h2⟩
  | .scr ns, v, h => by
    unfold Rep at h ⊢
    obtain ⟨b, ob, e, h1⟩ := h
    refine ⟨b, ob, e, ?_⟩
    rw [upd_ne (fun q => by rw [q] at h1; rw [h1] at c; exact c)]; exact h1
  | .fn f, v, h => by unfold Rep at h; exact h.elim
theorem RepL.chg {P : Addr → Prop} {H : Hp} {a : Addr} {o : HO} (c : Chg (H a)) (np : ¬ P a) : ∀ (ds : List D) (vs : List V), RepL P H ds vs → RepL P (upd H a o) ds vs
  | [], vs, h => by unfold RepL at h ⊢; exact h
  | d :: ds, vs, h => by
    unfold RepL at h ⊢
    obtain ⟨v, r, e, h1, h2⟩ := h
    exact ⟨v, r, e, Rep.chg c np d v h1, RepL.chg c np ds r h2⟩
theorem RepKV.chg {P : Addr → Prop} {H : Hp} {a : Addr} {o : HO} (c : Chg (H a)) (np : ¬ P a) : ∀ (kvs : List (D × D)) (ps : List (D × V)), RepKV P H kvs ps → RepKV P (upd H a o) kvs ps
  | [], ps, h => by unfold RepKV at h ⊢; exact h
  | (k, d) :: kvs, ps, h => by
    unfold RepKV at h ⊢
    obtain ⟨v, r, e, h1, h2⟩ := h
    exact ⟨v, r, e, Rep.chg c np d v h1, RepKV.chg c np kvs r h2⟩
end

theorem HD.inj {t t' : Bool} {H : Hp} {a : Addr} {ps qs : List (D × V)} (h : HD t H a ps) (g : HD t' H a qs) : t = t' ∧ ps = qs := by
  cases t <;> cases t' <;> obtain ⟨ks, (r | ⟨o, r⟩), e⟩ := h <;> obtain ⟨ks', (r' | ⟨o', r'⟩), e'⟩ := g <;>
    (rw [r] at r'; cases r' <;> exact ⟨rfl, by rw [e, e']⟩)
theorem HD.obj {t : Bool} {H : Hp} {a : Addr} {ps : List (D × V)} (h : HD t H a ps) {o : HO} (e : H a = Option.some o) : (∀ xs, o ≠ .tup xs) ∧ (∀ xs, o ≠ .lst xs) ∧ ∀ ob xs, o ≠ .frz ob (.lst xs) := by
  cases t <;> obtain ⟨ks, (r | ⟨o', r⟩), _⟩ := h <;> (rw [e] at r; cases r; exact ⟨(fun _ z => nomatch z), (fun _ z => nomatch z), (fun _ _ z => nomatch z)⟩)
mutual
theorem Rep.inj {P P' : Addr → Prop} {H : Hp} : ∀ (d d' : D) (v : V), Rep P H d v → Rep P' H d' v → d = d'
  | .non, d', v, h, g => by cases d' <;> simp only [Rep] at h g <;> simp_all
  | .bl b, d', v, h, g => by cases d' <;> simp only [Rep] at h g <;> simp_all
  | .int i, d', v, h, g => by cases d' <;> simp only [Rep] at h g <;> simp_all
  | .str x, d', v, h, g => by cases d' <;> simp only [Rep] at h g <;> simp_all
  | .tup ds, d', v, h, g => by
    simp only [Rep] at h
    obtain ⟨a, vs, e, h1, h2⟩ := h
    subst e
    cases d' with
    | tup es =>
      simp only [Rep] at g
      obtain ⟨b, ws, e, g1, g2⟩ := g
      cases e; rw [h1] at g1; cases g1
      rw [RepL.inj ds es vs h2 g2]
    | lst es => simp only [Rep] at g; obtain ⟨b, ws, e, _, g1, _⟩ := g; cases e; rw [h1] at g1; cases g1
    | dic t es => simp only [Rep] at g; obtain ⟨b, ws, e, _, g1, _⟩ := g; cases e; have q := g1.obj h1; first | exact absurd rfl (q.1 _) | exact absurd rfl (q.2.1 _) | exact absurd rfl (q.2.2 _ _)
    | scr ns => simp only [Rep] at g; obtain ⟨b, ws, e, g1⟩ := g; cases e; rw [h1] at g1; cases g1
    | _ => simp only [Rep] at g <;> simp_all
  | .lst ds, d', v, h, g => by
    simp only [Rep] at h
    obtain ⟨a, vs, e, _, h1, h2⟩ := h
    subst e
    cases d' with
    | tup es => simp only [Rep] at g; obtain ⟨b, ws, e, g1, _⟩ := g; cases e; rw [h1] at g1; cases g1
    | lst es =>
      simp only [Rep] at g
      obtain ⟨b, ws, e, _, g1, g2⟩ := g
      cases e; rw [h1] at g1; cases g1
      rw [RepL.inj ds es vs h2 g2]
    | dic t es => simp only [Rep] at g; obtain ⟨b, ws, e, _, g1, _⟩ := g; cases e; have q := g1.obj h1; first | exact absurd rfl (q.1 _) | exact absurd rfl (q.2.1 _) | exact absurd rfl (q.2.2 _ _)
    | scr ns => simp only [Rep] at g; obtain ⟨b, ws, e, g1⟩ := g; cases e; rw [h1] at g1; cases g1
    | _ => simp only [Rep] at g <;> simp_all
  | .dic t kvs, d', v, h, g => by
    simp only [Rep] at h
    obtain ⟨a, ps, e, _, h1, h2⟩ := h
    subst e
    cases d' with
    | tup es => simp only [Rep] at g; obtain ⟨b, ws, e, g1, _⟩ := g; cases e; exact absurd rfl ((h1.obj g1).1 _)
    | lst es => simp only [Rep] at g; obtain ⟨b, ws, e, _, g1, _⟩ := g; cases e; exact absurd rfl ((h1.obj g1).2.1 _)
    | dic t es =>
      simp only [Rep] at g
      obtain ⟨b, qs, e, _, g1, g2⟩ := g
      cases e
      obtain ⟨rfl, rfl⟩ := h1.inj g1
      rw [RepKV.inj kvs es ps h2 g2]
    | scr ns => simp only [Rep] at g; obtain ⟨b, ws, e, g1⟩ := g; cases e; exact absurd rfl ((h1.obj g1).2.2 _ _)
    | _ => simp only [Rep] at g <;> simp_all
  | .scr ns, d', v, h, g => by
    simp only [Rep] at h
    obtain ⟨a, o, e, h1⟩ := h
    subst e
    cases d' with
    | tup es => simp only [Rep] at g; obtain ⟨b, ws, e, g1, _⟩ := g; cases e; rw [h1] at g1; cases g1
    | lst es => simp only [Rep] at g; obtain ⟨b, ws, e, _, g1, _⟩ := g; cases e; rw [h1] at g1; cases g1
    | dic t es => simp only [Rep] at g; obtain ⟨b, ws, e, _, g1, _⟩ := g; cases e; have q := g1.obj h1; first | exact absurd rfl (q.1 _) | exact absurd rfl (q.2.1 _) | exact absurd rfl (q.2.2 _ _)
    | scr ms =>
      simp only [Rep] at g
      obtain ⟨b, o', e, g1⟩ := g
      cases e; rw [h1] at g1
      have q := HO.lst.inj (HO.frz.inj (Option.some.inj g1)).2
      have : ns = ms := by
        have := congrArg (List.map fun (x : V) => match x with | .int i => i | _ => 0) q
        simpa [List.map_map, Function.comp_def] using this
      rw [this]
    | _ => simp only [Rep] at g <;> simp_all
  | .fn f, d', v, h, g => by simp only [Rep] at h
theorem RepL.inj {P P' : Addr → Prop} {H : Hp} : ∀ (ds ds' : List D) (vs : List V), RepL P H ds vs → RepL P' H ds' vs → ds = ds'
  | [], [], _, _, _ => rfl
  | [], _ :: _, vs, h, g => by simp only [RepL] at h g; obtain ⟨v, r, e, _⟩ := g; rw [h] at e; cases e
  | _ :: _, [], vs, h, g => by simp only [RepL] at h g; obtain ⟨v, r, e, _⟩ := h; rw [g] at e; cases e
  | d :: ds, d' :: ds', vs, h, g => by
    simp only [RepL] at h g
    obtain ⟨v, r, e, h1, h2⟩ := h
    obtain ⟨v', r', e', g1, g2⟩ := g
    subst e; cases e'
    rw [Rep.inj d d' v h1 g1, RepL.inj ds ds' r h2 g2]
theorem RepKV.inj {P P' : Addr → Prop} {H : Hp} : ∀ (kvs kvs' : List (D × D)) (ps : List (D × V)), RepKV P H kvs ps → RepKV P' H kvs' ps → kvs = kvs'
  | [], [], _, _, _ => rfl
  | [], (k, d) :: _, vs, h, g => by simp only [RepKV] at h g; obtain ⟨v, r, e, _⟩ := g; rw [h] at e; cases e
  | (k, d) :: _, [], vs, h, g => by simp only [RepKV] at h g; obtain ⟨v, r, e, _⟩ := h; rw [g] at e; cases e
  | (k, d) :: kvs, (k', d') :: kvs', ps, h, g => by
    simp only [RepKV] at h g
    obtain ⟨v, r, e, h1, h2⟩ := h
    obtain ⟨v', r', e', g1, g2⟩ := g
    subst e; cases e'
    rw [Rep.inj d d' v h1 g1, RepKV.inj kvs kvs' r h2 g2]
end
end RE
/-! RE2: judgements: a piece of the text gives what a function of trees gives. -/
namespace RE
open PySem PySem.Spec PyProof.Rows L2

abbrev Fn := Str → List D → Option D
abbrev Env := List (Option D)
abbrev SE := Fn → Env → Option D
abbrev SB := Fn → Env → Option Bool
abbrev SA := Fn → Env → Option (List D)
/-- F: shared, never changed; M: the frame's own, may be changed; L: own, not changed for now; B: only looked at -/
inductive Kind | F | M | L | B
  deriving DecidableEq

/-- as Rep, the outermost object wherever it stands; defs of the module too -/
def RepB (mg : Str → Option Value) (P : Addr → Prop) (H : Hp) : D → V → Prop
  | .lst ds, v => ∃ a vs, v = .ref a ∧ H a = some (.lst vs) ∧ RepL P H ds vs
  | .dic t kvs, v => ∃ a ps, v = .ref a ∧ HD t H a ps ∧ RepKV P H kvs ps
  | .fn f, v => ∃ a, v = .ref a ∧ mg f = some (.ref a)
  | .non, v => v = .non
  | .bl b, v => v = .bl b
  | .int i, v => v = .int i
  | .str s, v => v = .str s
  | .tup ds, v => Rep P H (.tup ds) v
  | .scr ns, v => Rep P H (.scr ns) v

section
variable {mg : Str → Option Value} {P P' : Addr → Prop} {H H' : Hp} {d : D} {v : V}
theorem Rep.toB (h : Rep P H d v) : RepB mg P H d v := by
  cases d <;> simp only [Rep] at h <;> simp only [RepB, Rep] <;> first | exact h | skip
  · obtain ⟨a, vs, e, _, h1, h2⟩ := h; exact ⟨a, vs, e, h1, h2⟩
  · obtain ⟨a, vs, e, _, h1, h2⟩ := h; exact ⟨a, vs, e, h1, h2⟩
theorem RepB.mono (s : Same H H') (hp : ∀ a, H a ≠ none → P a → P' a) (h : RepB mg P H d v) : RepB mg P' H' d v := by
  cases d <;> simp only [RepB] at h ⊢ <;> first | exact h | exact Rep.mono s hp _ _ h | skip
  · obtain ⟨a, vs, e, h1, h2⟩ := h; exact ⟨a, vs, e, s _ _ h1, RepL.mono s hp _ _ h2⟩
  · obtain ⟨a, vs, e, h1, h2⟩ := h; exact ⟨a, vs, e, h1.same s, RepKV.mono s hp _ _ h2⟩
theorem RepB.same (s : Same H H') (h : RepB mg P H d v) : RepB mg P H' d v := h.mono s fun _ _ p => p
theorem RepB.weak (hp : ∀ a, P a → P' a) (h : RepB mg P H d v) : RepB mg P' H d v := h.mono (Same.refl H) fun a _ p => hp a p
end

/-- what a slot of a kind bears -/
def RepK (mg : Str → Option Value) (P : Addr → Prop) (H : Hp) (k : Kind) (d : D) (v : V) : Prop :=
  match k with
  | .F => Rep P H d v
  | _ => RepB mg P H d v
theorem RepK.toB {mg : Str → Option Value} {P : Addr → Prop} {H : Hp} {k : Kind} {d : D} {v : V} (h : RepK mg P H k d v) : RepB mg P H d v := by
  cases k with
  | F => exact Rep.toB h
  | _ => exact h
theorem RepK.mono {mg : Str → Option Value} {P P' : Addr → Prop} {H H' : Hp} {k : Kind} {d : D} {v : V} (s : Same H H') (hp : ∀ a, H a ≠ none → P a → P' a) (h : RepK mg P H k d v) : RepK mg P' H' k d v := by
  cases k with
  | F => exact Rep.mono s hp _ _ h
  | _ => exact RepB.mono s hp h
abbrev Ks := List Kind
def kd (ks : Ks) (i : Nat) : Kind := ks.getD i .F
/-- the slots bear the environment -/
def ER (mg : Str → Option Value) (P : Addr → Prop) (ks : Ks) (H : Hp) (σ : L2.St) (ρ : Env) : Prop :=
  ρ.length = σ.length ∧ ∀ i d, ρ[i]? = some (some d) → ∃ v, σ[i]? = some (some v) ∧ RepK mg P H (kd ks i) d v
theorem ER.mono {mg : Str → Option Value} {P P' : Addr → Prop} {ks : Ks} {H H' : Hp} {σ : L2.St} {ρ : Env} (s : Same H H') (hp : ∀ a, H a ≠ none → P a → P' a) (h : ER mg P ks H σ ρ) : ER mg P' ks H' σ ρ := ⟨h.1, fun i d e =>
  let ⟨v, e1, r⟩ := h.2 i d e
  ⟨v, e1, r.mono s hp⟩⟩
theorem ER.same {mg : Str → Option Value} {P : Addr → Prop} {ks : Ks} {H H' : Hp} {σ : L2.St} {ρ : Env} (s : Same H H') (h : ER mg P ks H σ ρ) : ER mg P ks H' σ ρ := h.mono s fun _ _ p => p
/-- all places where nothing stands are allowed -/
abbrev Fre (P : Addr → Prop) (H : Hp) : Prop := ∀ a, H a = none → P a
theorem Fre.same {P : Addr → Prop} {H H' : Hp} (f : Fre P H) (s : Same H H') : Fre P H' := fun a h => f a (s.free h)

/-- the outermost list or dict is new -/
def TopNew (H : Hp) : D → V → Prop
  | .lst _, v => ∀ a, v = .ref a → H a = none
  | .dic _ _, v => ∀ a, v = .ref a → H a = none
  | _, _ => True
theorem TopNew.back {H H' : Hp} {d : D} {v : V} (s : Same H H') (h : TopNew H' d v) : TopNew H d v := by
  cases d <;> simp only [TopNew] at h ⊢ <;> exact fun a e => s.free (h a e)

abbrev Cn (mg : Str → Option Value) (H : Hp) (ks : Ks) (F : Fn) (f : SE) (σ : L2.St) (R : (Addr → Prop) → D → V → Hp → Prop) (t : TE) : Prop :=
  ∀ (P : Addr → Prop) (ρ : Env) (Q : VK) (d : D), Fre P H → ER mg P ks H σ ρ → f F ρ = some d → (∀ v H', Same H H' → R P d v H' → Q v H') → t σ H Q

/-- e gives f; a new object where it is a list or dict -/
structure EvN (X : Cx) (ks : Ks) (F : Fn) (e : Expr) (f : SE) : Prop where
  ex : ∃ t : TE, PE X e t ∧ ∀ σ H, Cn X.mg H ks F f σ (fun P d v H' => Rep P H' d v ∧ TopNew H d v) t
/-- e gives f -/
structure EvE (X : Cx) (ks : Ks) (F : Fn) (e : Expr) (f : SE) : Prop where
  ex : ∃ t : TE, PE X e t ∧ ∀ σ H, Cn X.mg H ks F f σ (fun P d v H' => Rep P H' d v) t
/-- e gives f, to be looked at -/
structure EvP (X : Cx) (ks : Ks) (F : Fn) (e : Expr) (f : SE) : Prop where
  ex : ∃ t : TE, PE X e t ∧ ∀ σ H, Cn X.mg H ks F f σ (fun P d v H' => RepB X.mg P H' d v) t
theorem EvN.toE {X : Cx} {ks : Ks} {F : Fn} {e : Expr} {f : SE} (h : EvN X ks F e f) : EvE X ks F e f :=
  let ⟨t, p, q⟩ := h.ex
  ⟨t, p, fun σ H P ρ Q d fr er ev k => q σ H P ρ Q d fr er ev fun v H' s r => k v H' s r.1⟩
theorem EvE.toP {X : Cx} {ks : Ks} {F : Fn} {e : Expr} {f : SE} (h : EvE X ks F e f) : EvP X ks F e f :=
  let ⟨t, p, q⟩ := h.ex
  ⟨t, p, fun σ H P ρ Q d fr er ev k => q σ H P ρ Q d fr er ev fun v H' s r => k v H' s r.toB⟩
theorem EvN.toP {X : Cx} {ks : Ks} {F : Fn} {e : Expr} {f : SE} (h : EvN X ks F e f) : EvP X ks F e f := h.toE.toP
/-- a test -/
structure EvT (X : Cx) (ks : Ks) (F : Fn) (e : Expr) (f : SB) : Prop where
  ex : ∃ t : TT, PT X e t ∧ ∀ σ H (P : Addr → Prop) (ρ : Env) (Q : Bool → Hp → Prop) (b : Bool), Fre P H → ER X.mg P ks H σ ρ → f F ρ = some b → (∀ H', Same H H' → Q b H') → t σ H Q
structure EvW (X : Cx) (ks : Ks) (F : Fn) (e : Expr) (f : SB) : Prop where
  ex : ∃ t : TT, PW X e t ∧ ∀ σ H (P : Addr → Prop) (ρ : Env) (Q : Bool → Hp → Prop) (b : Bool), Fre P H → ER X.mg P ks H σ ρ → f F ρ = some b → (∀ H', Same H H' → Q b H') → t σ H Q
/-- arguments: by kinds (F: shared; else looked at) -/
def RepA (mg : Str → Option Value) (P : Addr → Prop) (H : Hp) : List Kind → List D → List V → Prop
  | _, [], vs => vs = []
  | ks, d :: ds, vs => ∃ v r, vs = v :: r ∧ RepK mg P H (ks.headD .F) d v ∧ RepA mg P H ks.tail ds r
theorem RepA.mono {mg : Str → Option Value} {P P' : Addr → Prop} {H H' : Hp} (s : Same H H') (hp : ∀ a, H a ≠ none → P a → P' a) : ∀ {ks : List Kind} {ds : List D} {vs : List V}, RepA mg P H ks ds vs → RepA mg P' H' ks ds vs
  | _, [], _, h => h
  | ks, d :: ds, vs, h => by
    obtain ⟨v, r, e, h1, h2⟩ := h
    exact ⟨v, r, e, h1.mono s hp, RepA.mono s hp h2⟩
theorem RepA.length {mg : Str → Option Value} {P : Addr → Prop} {H : Hp} : ∀ {ks : List Kind} {ds : List D} {vs : List V}, RepA mg P H ks ds vs → vs.length = ds.length
  | _, [], _, h => by rw [show _ = [] from h]; rfl
  | ks, d :: ds, vs, h => by
    obtain ⟨v, r, e, h1, h2⟩ := h
    rw [e, List.length_cons, List.length_cons, RepA.length h2]
structure EvA (X : Cx) (ks : Ks) (F : Fn) (pk : List Kind) (es : List Expr) (f : SA) : Prop where
  ex : ∃ t : TA, PA X es t ∧ ∀ σ H (P : Addr → Prop) (ρ : Env) (Q : List V → Hp → Prop) (ds : List D), Fre P H → ER X.mg P ks H σ ρ → f F ρ = some ds → (∀ vs H', Same H H' → RepA X.mg P H' pk ds vs → Q vs H') → t σ H Q

section
variable {X : Cx} {ks : Ks} {F : Fn} {pos : Pos}
/-! ### names and constants -/
def cC (d : D) : SE := fun _ _ => some d
def cV (i : Nat) : SE := fun _ ρ => match ρ[i]? with | some (some d) => some d | _ => none
theorem cV_some {i : Nat} {ρ : Env} {d : D} (h : cV i F ρ = some d) : ρ[i]? = some (some d) := by
  unfold cV at h
  split at h
  · rename_i e; rw [← h]; exact e
  · cases h
theorem evE_var {i : Nat} {x : Str} (hN : X.N[i]? = some x) (hv : Vis X.env.scope x) (hk : kd ks i = .F) (hd : (x == ("__debug__" : Str)) = false) (hcd : (x == ("__classdict__" : Str)) = false) : EvE X ks F (.Name x pos) (cV i) := by
  refine ⟨tVar i, pe_var hN hv hd hcd, fun σ H P ρ Q d fr er ev k => ?_⟩
  obtain ⟨v, e, r⟩ := er.2 i d (cV_some ev)
  rw [hk] at r
  exact ⟨v, e, k v H (Same.refl H) r⟩
theorem evP_var {i : Nat} {x : Str} (hN : X.N[i]? = some x) (hv : Vis X.env.scope x) (hd : (x == ("__debug__" : Str)) = false) (hcd : (x == ("__classdict__" : Str)) = false) : EvP X ks F (.Name x pos) (cV i) := by
  refine ⟨tVar i, pe_var hN hv hd hcd, fun σ H P ρ Q d fr er ev k => ?_⟩
  obtain ⟨v, e, r⟩ := er.2 i d (cV_some ev)
  exact ⟨v, e, k v H (Same.refl H) r.toB⟩
theorem evN_int {i j} : EvN X ks F (.Constant (.int i) j pos) (cC (.int i)) :=
  ⟨tC (.int i), pe_int, fun σ H P ρ Q d fr er ev k => by cases ev; exact k _ H (Same.refl H) ⟨rfl, trivial⟩⟩
theorem evN_bl {b j} : EvN X ks F (.Constant (.bool b) j pos) (cC (.bl b)) :=
  ⟨tC (.bl b), pe_bl, fun σ H P ρ Q d fr er ev k => by cases ev; exact k _ H (Same.refl H) ⟨rfl, trivial⟩⟩
theorem evN_non {j} : EvN X ks F (.Constant .none j pos) (cC .non) :=
  ⟨tC .non, pe_non, fun σ H P ρ Q d fr er ev k => by cases ev; exact k _ H (Same.refl H) ⟨rfl, trivial⟩⟩
theorem evN_str {x j} : EvN X ks F (.Constant (.str x) j pos) (cC (.str x)) :=
  ⟨tC (.str x), pe_str, fun σ H P ρ Q d fr er ev k => by cases ev; exact k _ H (Same.refl H) ⟨rfl, trivial⟩⟩
/-- a constant of the module -/
def constV : D → Option V
  | .int i => some (.int i)
  | .str s => some (.str s)
  | .bl b => some (.bl b)
  | _ => none
theorem evN_glob {x : Str} {d : D} {v : V} {u : Value} (hc : constV d = some v) (hg : Gl X x) (hm : X.mg x = some u) (r : RelV v u) (hd : (x == ("__debug__" : Str)) = false) : EvN X ks F (.Name x pos) (cC d) := by
  refine ⟨tC v, pe_glob hg hm r hd, fun σ H P ρ Q d' fr er ev k => ?_⟩
  cases ev
  cases d <;> simp only [constV] at hc <;> first | cases hc | skip
  all_goals exact k _ H (Same.refl H) ⟨rfl, trivial⟩
/-- a def of the module, handed on -/
theorem evP_fn {x : Str} {a : Addr} (hg : Gl X x) (hm : X.mg x = some (.ref a)) (hd : (x == ("__debug__" : Str)) = false) : EvP X ks F (.Name x pos) (cC (.fn x)) := by
  refine ⟨tC (.ref a), pe_glob hg hm rfl hd, fun σ H P ρ Q d' fr er ev k => ?_⟩
  cases ev
  exact k _ H (Same.refl H) ⟨a, rfl, hm⟩

/-! ### argument lists -/
def cNil : SA := fun _ _ => some []
def cCons (f : SE) (g : SA) : SA := fun F ρ => (f F ρ).bind fun d => (g F ρ).bind fun ds => some (d :: ds)
theorem starEach_cons {e : Expr} {es : List Expr} {env : PySem.Env} (h : ∀ x p, e ≠ .Starred x p) : starEach (e :: es) env = (false, eval e env) :: starEach es env := by
  cases e <;> first | rfl | exact absurd rfl (h _ _)
def noStar : Expr → Bool
  | .Starred _ _ => false
  | _ => true
theorem noStar_ne {e : Expr} (h : noStar e = true) : ∀ x p, e ≠ .Starred x p := fun x p q => by rw [q] at h; cases h
theorem evA_nil {pk : List Kind} : EvA X ks F pk [] cNil :=
  ⟨tNil, pa_nil, fun σ H P ρ Q ds fr er ev k => by cases ev; exact k [] H (Same.refl H) rfl⟩
theorem evA_consE {pk : List Kind} {e : Expr} {es : List Expr} {f : SE} {g : SA} (hk : pk.headD .F = .F) (hs : noStar e = true) (h : EvE X ks F e f) (hr : EvA X ks F pk.tail es g) : EvA X ks F pk (e :: es) (cCons f g) := by
  obtain ⟨t, p, q⟩ := h.ex
  obtain ⟨t', p', q'⟩ := hr.ex
  refine ⟨tCons t t', pa_cons p p' (starEach_cons (noStar_ne hs)), fun σ H P ρ Q ds fr er ev k => ?_⟩
  obtain ⟨d, e1, ev⟩ := Option.bind_eq_some_iff.mp ev
  obtain ⟨ds', e2, ev⟩ := Option.bind_eq_some_iff.mp ev
  cases ev
  refine q σ H P ρ _ d fr er e1 fun v H1 s1 r1 => ?_
  refine q' σ H1 P ρ _ ds' (fr.same s1) (er.same s1) e2 fun vs H2 s2 r2 => ?_
  exact k _ H2 (s1.trans s2) ⟨v, vs, rfl, by rw [hk]; exact r1.same s2, r2⟩
theorem evA_consP {pk : List Kind} {e : Expr} {es : List Expr} {f : SE} {g : SA} (hk : pk.headD .F ≠ .F) (hs : noStar e = true) (h : EvP X ks F e f) (hr : EvA X ks F pk.tail es g) : EvA X ks F pk (e :: es) (cCons f g) := by
  obtain ⟨t, p, q⟩ := h.ex
  obtain ⟨t', p', q'⟩ := hr.ex
  refine ⟨tCons t t', pa_cons p p' (starEach_cons (noStar_ne hs)), fun σ H P ρ Q ds fr er ev k => ?_⟩
  obtain ⟨d, e1, ev⟩ := Option.bind_eq_some_iff.mp ev
  obtain ⟨ds', e2, ev⟩ := Option.bind_eq_some_iff.mp ev
  cases ev
  refine q σ H P ρ _ d fr er e1 fun v H1 s1 r1 => ?_
  refine q' σ H1 P ρ _ ds' (fr.same s1) (er.same s1) e2 fun vs H2 s2 r2 => ?_
  refine k _ H2 (s1.trans s2) ⟨v, vs, rfl, ?_, r2⟩
  have r3 := r1.same s2
  generalize pk.headD .F = z at hk ⊢
  cases z <;> first | exact absurd rfl hk | exact r3

theorem RepA.allF {mg : Str → Option Value} {P : Addr → Prop} {H : Hp} : ∀ {ds : List D} {vs : List V}, RepA mg P H [] ds vs → RepL P H ds vs
  | [], _, h => by unfold RepL; exact h
  | d :: ds, vs, h => by
    obtain ⟨v, r, e, h1, h2⟩ := h
    unfold RepL
    exact ⟨v, r, e, h1, RepA.allF h2⟩
theorem same_new {H : Hp} {p : Addr} {o : HO} (h : H p = none) : Same H (upd H p o) := fun b x e => by
  rw [L2.upd_ne (ne_of_none e h)]; exact e
theorem RepL.len {P : Addr → Prop} {H : Hp} : ∀ {ds : List D} {vs : List V}, RepL P H ds vs → vs.length = ds.length
  | [], _, h => by unfold RepL at h; rw [h]; rfl
  | d :: ds, vs, h => by
    unfold RepL at h
    obtain ⟨v, r, e, h1, h2⟩ := h
    rw [e, List.length_cons, List.length_cons, RepL.len h2]

/-- as long as the model has room for -/
def fits (n : Nat) : Bool := decide (n ≤ sizeLine)
def mkTup (ds : List D) : Option D := if fits ds.length then some (.tup ds) else none
def mkLst (ds : List D) : Option D := if fits ds.length then some (.lst ds) else none
theorem mkTup_some {ds : List D} {d : D} (h : mkTup ds = some d) : d = .tup ds ∧ ds.length ≤ sizeLine := by
  unfold mkTup at h; split at h
  · rename_i e; exact ⟨(Option.some.inj h).symm, of_decide_eq_true e⟩
  · cases h
theorem mkLst_some {ds : List D} {d : D} (h : mkLst ds = some d) : d = .lst ds ∧ ds.length ≤ sizeLine := by
  unfold mkLst at h; split at h
  · rename_i e; exact ⟨(Option.some.inj h).symm, of_decide_eq_true e⟩
  · cases h
def cTup (g : SA) : SE := fun F ρ => (g F ρ).bind mkTup
def cLst (g : SA) : SE := fun F ρ => (g F ρ).bind mkLst
theorem evN_tup {es : List Expr} {x1} {g : SA} (h : EvA X ks F [] es g) : EvN X ks F (.Tuple es x1 pos) (cTup g) := by
  obtain ⟨t, p, q⟩ := h.ex
  refine ⟨tTup t, pe_tup p, fun σ H P ρ Q d fr er ev k => ?_⟩
  obtain ⟨ds, e1, ev⟩ := Option.bind_eq_some_iff.mp ev
  obtain ⟨rfl, hl⟩ := mkTup_some ev
  refine q σ H P ρ _ ds fr er e1 fun vs H1 s1 r1 => ?_
  have r1 := r1.allF
  refine ⟨by rw [r1.len]; exact hl, fun p hp => ?_⟩
  refine k _ _ (s1.trans (same_new hp)) ⟨?_, trivial⟩
  unfold Rep
  exact ⟨p, vs, rfl, upd_same, r1.same (same_new hp)⟩
theorem evN_lst {es : List Expr} {g : SA} (h : EvA X ks F [] es g) : EvN X ks F (.List es pos) (cLst g) := by
  obtain ⟨t, p, q⟩ := h.ex
  refine ⟨tLst t, pe_lst p, fun σ H P ρ Q d fr er ev k => ?_⟩
  obtain ⟨ds, e1, ev⟩ := Option.bind_eq_some_iff.mp ev
  obtain ⟨rfl, hl⟩ := mkLst_some ev
  refine q σ H P ρ _ ds fr er e1 fun vs H1 s1 r1 => ?_
  have r1 := r1.allF
  refine ⟨by rw [r1.len]; exact hl, fun p hp => ?_⟩
  refine k _ _ (s1.trans (same_new hp)) ⟨?_, ?_⟩
  · unfold Rep
    exact ⟨p, vs, rfl, (fr.same s1) p hp, upd_same, r1.same (same_new hp)⟩
  · simp only [TopNew]
    intro a e; cases e; exact s1.free hp

/-! ### operators by values -/
/-- r serves op: where op of the trees is told, r leads there -/
def R2Ok (mg : Str → Option Value) (r : R2) (op : D → D → Option D) : Prop :=
  ∀ (P : Addr → Prop) (H : Hp) (x y d : D) (v w : V) (Q : VK), Fre P H → RepB mg P H x v → RepB mg P H y w → op x y = some d →
    (∀ z H', Same H H' → Rep P H' d z → TopNew H d z → Q z H') → r v w H Q
def cB (op : D → D → Option D) (f g : SE) : SE := fun F ρ => (f F ρ).bind fun x => (g F ρ).bind fun y => op x y
def R1Ok (mg : Str → Option Value) (r : V → Hp → VK → Prop) (op : D → Option D) : Prop :=
  ∀ (P : Addr → Prop) (H : Hp) (x d : D) (v : V) (Q : VK), Fre P H → RepB mg P H x v → op x = some d →
    (∀ z H', Same H H' → Rep P H' d z → TopNew H d z → Q z H') → r v H Q
def cU (op : D → Option D) (f : SE) : SE := fun F ρ => (f F ρ).bind op
theorem tOp_ok {r : R2} {op : D → D → Option D} {a b : Expr} {f g : SE} {ta tb : TE} (hr : R2Ok X.mg r op)
    (qa : ∀ σ H, Cn X.mg H ks F f σ (fun P d v H' => RepB X.mg P H' d v) ta) (qb : ∀ σ H, Cn X.mg H ks F g σ (fun P d v H' => RepB X.mg P H' d v) tb) :
    ∀ σ H, Cn X.mg H ks F (cB op f g) σ (fun P d v H' => Rep P H' d v ∧ TopNew H d v) (tOp r ta tb) := by
  intro σ H P ρ Q d fr er ev k
  obtain ⟨x, e1, ev⟩ := Option.bind_eq_some_iff.mp ev
  obtain ⟨y, e2, ev⟩ := Option.bind_eq_some_iff.mp ev
  refine qa σ H P ρ _ x fr er e1 fun v H1 s1 r1 => ?_
  refine qb σ H1 P ρ _ y (fr.same s1) (er.same s1) e2 fun w H2 s2 r2 => ?_
  exact hr P H2 x y d v w Q ((fr.same s1).same s2) (r1.same s2) r2 ev fun z H' s n tn => k z H' ((s1.trans s2).trans s) ⟨n, TopNew.back (s1.trans s2) tn⟩
theorem evN_bin {op : Operator} {r : R2} {o : D → D → Option D} {a b : Expr} {f g : SE} (ho : OpR X (binaryOp op) r) (hr : R2Ok X.mg r o) (ha : EvP X ks F a f) (hb : EvP X ks F b g) : EvN X ks F (.BinOp a op b pos) (cB o f g) := by
  obtain ⟨ta, pa, qa⟩ := ha.ex
  obtain ⟨tb, pb, qb⟩ := hb.ex
  exact ⟨tOp r ta tb, pe_op ho pa pb, tOp_ok (a := a) (b := b) hr qa qb⟩
theorem evN_un {op : UnaryOp} {r : V → Hp → VK → Prop} {o : D → Option D} {a : Expr} {f : SE} (ho : UnR X (unaryOp op) r) (hr : R1Ok X.mg r o) (ha : EvP X ks F a f) : EvN X ks F (.UnaryOp op a pos) (cU o f) := by
  obtain ⟨ta, pa, qa⟩ := ha.ex
  refine ⟨tUn r ta, pe_un ho pa, fun σ H P ρ Q d fr er ev k => ?_⟩
  obtain ⟨x, e1, ev⟩ := Option.bind_eq_some_iff.mp ev
  refine qa σ H P ρ _ x fr er e1 fun v H1 s1 r1 => ?_
  exact hr P H1 x d v Q (fr.same s1) r1 ev fun z H' s n tn => k z H' (s1.trans s) ⟨n, TopNew.back s1 tn⟩
theorem evN_cmp {op : CmpOp} {r : R2} {o : D → D → Option D} {a b : Expr} {f g : SE} (ho : OpR X (compareOp op) r) (hr : R2Ok X.mg r o) (hm : behindInMarks op b = false) (ha : EvP X ks F a f) (hb : EvP X ks F b g) : EvN X ks F (.Compare a [op] [b] pos) (cB o f g) := by
  obtain ⟨ta, pa, qa⟩ := ha.ex
  obtain ⟨tb, pb, qb⟩ := hb.ex
  exact ⟨tOp r ta tb, pe_cmpR ho pa pb hm, tOp_ok (a := a) (b := b) hr qa qb⟩
def boolD : D → Option Bool
  | .bl b => some b
  | _ => none
def cBT (op : D → D → Option D) (f g : SE) : SB := fun F ρ => (cB op f g F ρ).bind boolD
theorem boolD_some {d : D} {b : Bool} (h : boolD d = some b) : d = .bl b := by
  cases d <;> simp [boolD] at h
  rw [h]
theorem evT_cmp {op : CmpOp} {r : R2} {o : D → D → Option D} {a b : Expr} {f g : SE} (ho : OpR X (compareOp op) r) (hr : R2Ok X.mg r o) (hm : behindInMarks op b = false) (ha : EvP X ks F a f) (hb : EvP X ks F b g) : EvT X ks F (.Compare a [op] [b] pos) (cBT o f g) := by
  obtain ⟨ta, pa, qa⟩ := ha.ex
  obtain ⟨tb, pb, qb⟩ := hb.ex
  refine ⟨tTest (tOp r ta tb), pt_cmpR ho pa pb hm, fun σ H P ρ Q c fr er ev k => ?_⟩
  obtain ⟨d, e1, ev⟩ := Option.bind_eq_some_iff.mp ev
  refine tOp_ok (a := a) (b := b) hr qa qb σ H P ρ _ d fr er e1 fun v H1 s1 r1 => ?_
  have := boolD_some ev
  subst this
  exact ⟨c, by have := r1.1; simpa only [Rep] using this, k H1 s1⟩
/-- a < b < c -/
def cCh (o o' : D → D → Option D) (f g h : SE) : SE := fun F ρ => (f F ρ).bind fun x => (g F ρ).bind fun y => (o x y).bind fun z => (boolD z).bind fun c => if c then (h F ρ).bind fun w => o' y w else some (.bl false)
theorem evN_chain {op op' : CmpOp} {r r' : R2} {o o' : D → D → Option D} {a b c : Expr} {f g h : SE} (ho : OpR X (compareOp op) r) (hr : R2Ok X.mg r o) (ho' : OpR X (compareOp op') r') (hr' : R2Ok X.mg r' o')
    (ha : EvP X ks F a f) (hb : EvP X ks F b g) (hc : EvP X ks F c h) (hm : lastMarks [op, op'] [b, c] = false) : EvN X ks F (.Compare a [op, op'] [b, c] pos) (cCh o o' f g h) := by
  obtain ⟨ta, pa, qa⟩ := ha.ex
  obtain ⟨tb, pb, qb⟩ := hb.ex
  obtain ⟨tc, pc, qc⟩ := hc.ex
  refine ⟨tChain r r' ta tb tc, pe_chain ho ho' pa pb pc hm, fun σ H P ρ Q d fr er ev k => ?_⟩
  obtain ⟨x, e1, ev⟩ := Option.bind_eq_some_iff.mp ev
  obtain ⟨y, e2, ev⟩ := Option.bind_eq_some_iff.mp ev
  obtain ⟨z, e3, ev⟩ := Option.bind_eq_some_iff.mp ev
  obtain ⟨cc, e4, ev6⟩ := Option.bind_eq_some_iff.mp ev
  clear ev
  have := boolD_some e4
  subst this
  refine qa σ H P ρ _ x fr er e1 fun v H1 s1 r1 => ?_
  refine qb σ H1 P ρ _ y (fr.same s1) (er.same s1) e2 fun w H2 s2 r2 => ?_
  have f2 := (fr.same s1).same s2
  have er2 := (er.same s1).same s2
  refine hr P H2 x y _ v w _ f2 (r1.same s2) r2 e3 fun z H3 s3 n tn => ?_
  have n : z = .bl cc := by simpa only [Rep] using n
  refine ⟨cc, n, ?_⟩
  cases cc with
  | false =>
    rw [if_neg Bool.false_ne_true] at ev6 ⊢
    cases ev6
    exact k _ H3 ((s1.trans s2).trans s3) ⟨by simp only [Rep], trivial⟩
  | true =>
    rw [if_pos rfl] at ev6 ⊢
    obtain ⟨u, e5, ev7⟩ := Option.bind_eq_some_iff.mp ev6
    refine qc σ H3 P ρ _ u (f2.same s3) (er2.same s3) e5 fun w' H4 s4 r4 => ?_
    exact hr' P H4 y u d w w' Q ((f2.same s3).same s4) ((r2.same s3).same s4) r4 ev7 fun z H' s n tn => k z H' ((((s1.trans s2).trans s3).trans s4).trans s) ⟨n, TopNew.back (((s1.trans s2).trans s3).trans s4) tn⟩
end
end RE
/-! RE3: truth, tests, and, or, not, if; indexes and slices; built-ins by values. -/
namespace RE
open PySem PySem.Spec PyProof.Rows L2

/-- a value's truth -/
def truD : D → Option Bool
  | .non => some false
  | .bl b => some b
  | .int i => some (i != 0)
  | .str s => if fits s.length then some ((s.length : Int) != 0) else none
  | .lst xs => some (!xs.isEmpty)
  | .tup xs => some (!xs.isEmpty)
  | _ => none
theorem RepL.isEmpty {P : Addr → Prop} {H : Hp} {ds : List D} {vs : List V} (h : RepL P H ds vs) : vs.isEmpty = ds.isEmpty := by
  have := h.len
  cases ds <;> cases vs <;> simp_all
theorem tru_of {mg : Str → Option Value} {K : PySem.W.Frag} {P : Addr → Prop} {H : Hp} {d : D} {v : V} {b : Bool} (r : RepB mg P H d v) (h : truD d = some b) : TruV K v H b := by
  cases d <;> simp only [truD] at h <;> simp only [RepB, Rep] at r
  · cases h; subst r; rfl
  · cases h; subst r; rfl
  · cases h; subst r; rfl
  · split at h
    · rename_i e
      cases h; subst r
      exact ⟨of_decide_eq_true e, rfl⟩
    · cases h
  · cases h
    obtain ⟨a, vs, e, h1, h2⟩ := r
    subst e
    exact .inr (.inl ⟨vs, .inl (.inl h1), by rw [h2.isEmpty]⟩)
  · cases h
    obtain ⟨a, vs, e, h1, h2⟩ := r
    subst e
    exact .inl ⟨vs, .inl (.inl h1), by rw [h2.isEmpty]⟩
  · cases h
  · cases h
  · cases h

/-- its test is its value's truth -/
def plainTest : Expr → Bool
  | .UnaryOp .Not _ _ => false
  | .BoolOp _ _ _ => false
  | .IfExp _ _ _ _ => false
  | .Compare _ _ _ _ => false
  | _ => true
theorem isTrue_of {e : Expr} (h : plainTest e = true) (env : PySem.Env) : ∀ whole, isTrue e env whole = (do let v ← whole; standAt e.pos; holding [v] (truthy v)) := by
  cases e with
  | UnaryOp op x p => cases op <;> first | (intro w; rfl) | exact Bool.noConfusion h
  | BoolOp => cases h
  | IfExp => cases h
  | Compare => cases h
  | _ => intro w; rfl

section
variable {X : Cx} {ks : Ks} {F : Fn} {pos : Pos}
def cTr (f : SE) : SB := fun F ρ => (f F ρ).bind truD
theorem evT_truth {e : Expr} {f : SE} (hp : plainTest e = true) (h : EvP X ks F e f) : EvT X ks F e (cTr f) := by
  obtain ⟨t, p, q⟩ := h.ex
  refine ⟨_, pt_truth p (isTrue_of hp X.env), fun σ H P ρ Q b fr er ev k => ?_⟩
  obtain ⟨d, e1, ev⟩ := Option.bind_eq_some_iff.mp ev
  exact q σ H P ρ _ d fr er e1 fun v H1 s1 r1 => ⟨b, tru_of r1 ev, k H1 s1⟩
def cAndT (f g : SB) : SB := fun F ρ => (f F ρ).bind fun b => if b then g F ρ else some false
def cOrT (f g : SB) : SB := fun F ρ => (f F ρ).bind fun b => if b then some true else g F ρ
def cNotT (f : SB) : SB := fun F ρ => (f F ρ).map (!·)
theorem evW_and1 {a : Expr} {f : SB} (h : EvT X ks F a f) : EvW X ks F (.BoolOp .And [a] pos) f := let ⟨t, p, q⟩ := h.ex; ⟨t, pw_and1 p, q⟩
theorem evW_or1 {a : Expr} {f : SB} (h : EvT X ks F a f) : EvW X ks F (.BoolOp .Or [a] pos) f := let ⟨t, p, q⟩ := h.ex; ⟨t, pw_or1 p, q⟩
theorem evW_and {a b : Expr} {rest : List Expr} {f g : SB} (h : EvT X ks F a f) (h' : EvW X ks F (.BoolOp .And (b :: rest) pos) g) : EvW X ks F (.BoolOp .And (a :: b :: rest) pos) (cAndT f g) := by
  obtain ⟨t, p, q⟩ := h.ex
  obtain ⟨t', p', q'⟩ := h'.ex
  refine ⟨tAnd t t', pw_and p p', fun σ H P ρ Q c fr er ev k => ?_⟩
  obtain ⟨b, e1, ev⟩ := Option.bind_eq_some_iff.mp ev
  refine q σ H P ρ _ b fr er e1 fun H1 s1 => ?_
  cases b with
  | true => rw [if_pos rfl] at ev ⊢; exact q' σ H1 P ρ _ c (fr.same s1) (er.same s1) ev fun H2 s2 => k H2 (s1.trans s2)
  | false => rw [if_neg Bool.false_ne_true] at ev ⊢; cases ev; exact k H1 s1
theorem evW_or {a b : Expr} {rest : List Expr} {f g : SB} (h : EvT X ks F a f) (h' : EvW X ks F (.BoolOp .Or (b :: rest) pos) g) : EvW X ks F (.BoolOp .Or (a :: b :: rest) pos) (cOrT f g) := by
  obtain ⟨t, p, q⟩ := h.ex
  obtain ⟨t', p', q'⟩ := h'.ex
  refine ⟨tOr t t', pw_or p p', fun σ H P ρ Q c fr er ev k => ?_⟩
  obtain ⟨b, e1, ev⟩ := Option.bind_eq_some_iff.mp ev
  refine q σ H P ρ _ b fr er e1 fun H1 s1 => ?_
  cases b with
  | false => rw [if_neg Bool.false_ne_true] at ev ⊢; exact q' σ H1 P ρ _ c (fr.same s1) (er.same s1) ev fun H2 s2 => k H2 (s1.trans s2)
  | true => rw [if_pos rfl] at ev ⊢; cases ev; exact k H1 s1
theorem EvW.toT {e : Expr} {f : SB} (h : EvW X ks F e f) : EvT X ks F e f := let ⟨t, p, q⟩ := h.ex; ⟨t, p.pt, q⟩
theorem evT_not {a : Expr} {f : SB} (h : EvT X ks F a f) : EvT X ks F (.UnaryOp .Not a pos) (cNotT f) := by
  obtain ⟨t, p, q⟩ := h.ex
  refine ⟨tNot t, pt_not p, fun σ H P ρ Q c fr er ev k => ?_⟩
  obtain ⟨b, e1, ev⟩ := Option.map_eq_some_iff.mp ev
  subst ev
  exact q σ H P ρ _ b fr er e1 fun H1 s1 => k H1 s1
theorem evT_chain {op op' : CmpOp} {r r' : R2} {o o' : D → D → Option D} {a b c : Expr} {f g h : SE} (ho : OpR X (compareOp op) r) (hr : R2Ok X.mg r o) (ho' : OpR X (compareOp op') r') (hr' : R2Ok X.mg r' o')
    (ha : EvP X ks F a f) (hb : EvP X ks F b g) (hc : EvP X ks F c h) (hm : lastMarks [op, op'] [b, c] = false) : EvT X ks F (.Compare a [op, op'] [b, c] pos) (fun F ρ => (cCh o o' f g h F ρ).bind boolD) := by
  obtain ⟨ta, pa, qa⟩ := ha.ex
  obtain ⟨tb, pb, qb⟩ := hb.ex
  obtain ⟨tc, pc, qc⟩ := hc.ex
  refine ⟨tTest (tChain r r' ta tb tc), pt_chain ho ho' pa pb pc hm, fun σ H P ρ Q cc fr er ev k => ?_⟩
  obtain ⟨d, e0, ev'⟩ := Option.bind_eq_some_iff.mp ev
  obtain ⟨x, e1, ev1⟩ := Option.bind_eq_some_iff.mp e0
  obtain ⟨y, e2, ev2⟩ := Option.bind_eq_some_iff.mp ev1
  obtain ⟨z, e3, ev3⟩ := Option.bind_eq_some_iff.mp ev2
  obtain ⟨c1, e4, ev4⟩ := Option.bind_eq_some_iff.mp ev3
  have hz := boolD_some e4
  subst hz
  have hd := boolD_some ev'
  subst hd
  clear ev ev' e0 ev1 ev2 ev3
  refine qa σ H P ρ _ x fr er e1 fun v H1 s1 r1 => ?_
  refine qb σ H1 P ρ _ y (fr.same s1) (er.same s1) e2 fun w H2 s2 r2 => ?_
  have f2 := (fr.same s1).same s2
  have er2 := (er.same s1).same s2
  refine hr P H2 x y _ v w _ f2 (r1.same s2) r2 e3 fun z H3 s3 n tn => ?_
  have n : z = .bl c1 := by simpa only [Rep] using n
  refine ⟨c1, n, ?_⟩
  cases c1 with
  | false =>
    rw [if_neg Bool.false_ne_true] at ev4 ⊢
    cases ev4
    exact ⟨false, rfl, k H3 ((s1.trans s2).trans s3)⟩
  | true =>
    rw [if_pos rfl] at ev4 ⊢
    obtain ⟨u, e5, ev7⟩ := Option.bind_eq_some_iff.mp ev4
    refine qc σ H3 P ρ _ u (f2.same s3) (er2.same s3) e5 fun w' H4 s4 r4 => ?_
    refine hr' P H4 y u _ w w' _ ((f2.same s3).same s4) ((r2.same s3).same s4) r4 ev7 fun z H' s n tn => ⟨cc, by simpa only [Rep] using n, k H' ((((s1.trans s2).trans s3).trans s4).trans s)⟩

/-! ### and, or, not, if as values -/
def cOr (f g : SE) : SE := fun F ρ => (f F ρ).bind fun d => (truD d).bind fun b => if b then some d else g F ρ
def cAnd (f g : SE) : SE := fun F ρ => (f F ρ).bind fun d => (truD d).bind fun b => if b then g F ρ else some d
def cNot (f : SE) : SE := fun F ρ => (f F ρ).bind fun d => (truD d).map fun b => .bl (!b)
theorem evE_one {op} {a : Expr} {f : SE} (h : EvE X ks F a f) : EvE X ks F (.BoolOp op [a] pos) f := let ⟨t, p, q⟩ := h.ex; ⟨t, pe_one p, q⟩
theorem evE_or {a b : Expr} {rest : List Expr} {f g : SE} (h : EvE X ks F a f) (h' : EvE X ks F (.BoolOp .Or (b :: rest) pos) g) : EvE X ks F (.BoolOp .Or (a :: b :: rest) pos) (cOr f g) := by
  obtain ⟨t, p, q⟩ := h.ex
  obtain ⟨t', p', q'⟩ := h'.ex
  refine ⟨tOrT X.K t t', pe_orT p p', fun σ H P ρ Q d fr er ev k => ?_⟩
  obtain ⟨x, e1, ev1⟩ := Option.bind_eq_some_iff.mp ev
  obtain ⟨b, e2, ev2⟩ := Option.bind_eq_some_iff.mp ev1
  refine q σ H P ρ _ x fr er e1 fun v H1 s1 r1 => ⟨b, tru_of (mg := X.mg) (Rep.toB r1) e2, ?_⟩
  cases b with
  | true => rw [if_pos rfl] at ev2 ⊢; cases ev2; exact k v H1 s1 r1
  | false => rw [if_neg Bool.false_ne_true] at ev2 ⊢; exact q' σ H1 P ρ _ d (fr.same s1) (er.same s1) ev2 fun v H2 s2 r2 => k v H2 (s1.trans s2) r2
theorem evE_and {a b : Expr} {rest : List Expr} {f g : SE} (h : EvE X ks F a f) (h' : EvE X ks F (.BoolOp .And (b :: rest) pos) g) : EvE X ks F (.BoolOp .And (a :: b :: rest) pos) (cAnd f g) := by
  obtain ⟨t, p, q⟩ := h.ex
  obtain ⟨t', p', q'⟩ := h'.ex
  refine ⟨tAndT X.K t t', pe_andT p p', fun σ H P ρ Q d fr er ev k => ?_⟩
  obtain ⟨x, e1, ev1⟩ := Option.bind_eq_some_iff.mp ev
  obtain ⟨b, e2, ev2⟩ := Option.bind_eq_some_iff.mp ev1
  refine q σ H P ρ _ x fr er e1 fun v H1 s1 r1 => ⟨b, tru_of (mg := X.mg) (Rep.toB r1) e2, ?_⟩
  cases b with
  | false => rw [if_neg Bool.false_ne_true] at ev2 ⊢; cases ev2; exact k v H1 s1 r1
  | true => rw [if_pos rfl] at ev2 ⊢; exact q' σ H1 P ρ _ d (fr.same s1) (er.same s1) ev2 fun v H2 s2 r2 => k v H2 (s1.trans s2) r2
theorem evN_not {a : Expr} {f : SE} (h : EvP X ks F a f) : EvN X ks F (.UnaryOp .Not a pos) (cNot f) := by
  obtain ⟨t, p, q⟩ := h.ex
  refine ⟨tNotT X.K t, pe_notT p, fun σ H P ρ Q d fr er ev k => ?_⟩
  obtain ⟨x, e1, ev1⟩ := Option.bind_eq_some_iff.mp ev
  obtain ⟨b, e2, ev2⟩ := Option.map_eq_some_iff.mp ev1
  subst ev2
  exact q σ H P ρ _ x fr er e1 fun v H1 s1 r1 => ⟨b, tru_of r1 e2, k _ H1 s1 ⟨rfl, trivial⟩⟩
def cIf (c : SB) (f g : SE) : SE := fun F ρ => (c F ρ).bind fun b => if b then f F ρ else g F ρ
theorem evE_if {c a b : Expr} {h : SB} {f g : SE} (hc : EvT X ks F c h) (ha : EvE X ks F a f) (hb : EvE X ks F b g) : EvE X ks F (.IfExp c a b pos) (cIf h f g) := by
  obtain ⟨t, p, q⟩ := hc.ex
  obtain ⟨ta, pa, qa⟩ := ha.ex
  obtain ⟨tb, pb, qb⟩ := hb.ex
  refine ⟨tIf t ta tb, pe_ifExp p pa pb, fun σ H P ρ Q d fr er ev k => ?_⟩
  obtain ⟨b, e1, ev1⟩ := Option.bind_eq_some_iff.mp ev
  refine q σ H P ρ _ b fr er e1 fun H1 s1 => ?_
  cases b with
  | true => rw [if_pos rfl] at ev1 ⊢; exact qa σ H1 P ρ _ d (fr.same s1) (er.same s1) ev1 fun v H2 s2 r2 => k v H2 (s1.trans s2) r2
  | false => rw [if_neg Bool.false_ne_true] at ev1 ⊢; exact qb σ H1 P ρ _ d (fr.same s1) (er.same s1) ev1 fun v H2 s2 r2 => k v H2 (s1.trans s2) r2
theorem evP_if {c a b : Expr} {h : SB} {f g : SE} (hc : EvT X ks F c h) (ha : EvP X ks F a f) (hb : EvP X ks F b g) : EvP X ks F (.IfExp c a b pos) (cIf h f g) := by
  obtain ⟨t, p, q⟩ := hc.ex
  obtain ⟨ta, pa, qa⟩ := ha.ex
  obtain ⟨tb, pb, qb⟩ := hb.ex
  refine ⟨tIf t ta tb, pe_ifExp p pa pb, fun σ H P ρ Q d fr er ev k => ?_⟩
  obtain ⟨b, e1, ev1⟩ := Option.bind_eq_some_iff.mp ev
  refine q σ H P ρ _ b fr er e1 fun H1 s1 => ?_
  cases b with
  | true => rw [if_pos rfl] at ev1 ⊢; exact qa σ H1 P ρ _ d (fr.same s1) (er.same s1) ev1 fun v H2 s2 r2 => k v H2 (s1.trans s2) r2
  | false => rw [if_neg Bool.false_ne_true] at ev1 ⊢; exact qb σ H1 P ρ _ d (fr.same s1) (er.same s1) ev1 fun v H2 s2 r2 => k v H2 (s1.trans s2) r2
theorem evN_if {c a b : Expr} {h : SB} {f g : SE} (hc : EvT X ks F c h) (ha : EvN X ks F a f) (hb : EvN X ks F b g) : EvN X ks F (.IfExp c a b pos) (cIf h f g) := by
  obtain ⟨t, p, q⟩ := hc.ex
  obtain ⟨ta, pa, qa⟩ := ha.ex
  obtain ⟨tb, pb, qb⟩ := hb.ex
  refine ⟨tIf t ta tb, pe_ifExp p pa pb, fun σ H P ρ Q d fr er ev k => ?_⟩
  obtain ⟨b, e1, ev1⟩ := Option.bind_eq_some_iff.mp ev
  refine q σ H P ρ _ b fr er e1 fun H1 s1 => ?_
  cases b with
  | true => rw [if_pos rfl] at ev1 ⊢; exact qa σ H1 P ρ _ d (fr.same s1) (er.same s1) ev1 fun v H2 s2 r2 => k v H2 (s1.trans s2) ⟨r2.1, TopNew.back s1 r2.2⟩
  | false => rw [if_neg Bool.false_ne_true] at ev1 ⊢; exact qb σ H1 P ρ _ d (fr.same s1) (er.same s1) ev1 fun v H2 s2 r2 => k v H2 (s1.trans s2) ⟨r2.1, TopNew.back s1 r2.2⟩

/-! ### built-ins by values -/
def RcOk (mg : Str → Option Value) (r : List V → Hp → VK → Prop) (op : List D → Option D) : Prop :=
  ∀ (P : Addr → Prop) (H : Hp) (xs : List D) (d : D) (vs : List V) (Q : VK), Fre P H → RepA mg P H [.B, .B, .B, .B] xs vs → op xs = some d →
    (∀ z H', Same H H' → Rep P H' d z → TopNew H d z → Q z H') → r vs H Q
def cCall (op : List D → Option D) (g : SA) : SE := fun F ρ => (g F ρ).bind op
theorem notDbg {x : Str} (h : (x == ("__debug__" : Str)) = false) : (x == ("__debug__" : Str)) = false := h
theorem backTo_any {pos : Pos} : ∀ {es : List Expr} {env : PySem.Env}, es.all noStar = true → (backTo pos (starEach es env)).any (·.1) = false := by
  intro es env h
  have : ∀ (es : List Expr), es.all noStar = true → ∀ p ∈ starEach es env, p.1 = false := by
    intro es
    induction es with
    | nil => intro _ p hp; cases hp
    | cons e es ih =>
      intro h p hp
      rw [List.all_cons, Bool.and_eq_true] at h
      rw [starEach_cons (noStar_ne h.1)] at hp
      rcases List.mem_cons.mp hp with rfl | hp
      · rfl
      · exact ih h.2 p hp
  have h2 := this es h
  generalize starEach es env = l at h2 ⊢
  cases l with
  | nil => rfl
  | cons a l =>
    rw [List.any_eq_false]
    intro p hp
    simp only [Bool.not_eq_true]
    unfold backTo at hp
    obtain ⟨q, hq, e⟩ := List.mem_map.mp hp
    rw [← e]
    exact h2 q hq
theorem evN_callB {x : Str} {p : Pos} {id : String} {r : List V → Hp → VK → Prop} {op : List D → Option D} {e : Expr} {es : List Expr} {g : SA} (hc : CallR X (.builtin id) r) (hr : RcOk X.mg r op) (hg : Gl X x) (hm : X.mg x = none) (hv : bootBuiltins x = some (.builtin id))
    (hn : x ≠ "__name__") (hdb : (x == ("__debug__" : Str)) = false) (hs : (e :: es).all noStar = true) (ha : EvA X ks F [.B, .B, .B, .B] (e :: es) g) : EvN X ks F (.Call (.Name x p) (e :: es) [] pos) (cCall op g) := by
  obtain ⟨t, pt, q⟩ := ha.ex
  have hs' := hs
  rw [List.all_cons, Bool.and_eq_true] at hs'
  refine ⟨tCB r t, pe_callB hc hg hm hv pt hn hdb (starEach_cons (noStar_ne hs'.1)) (backTo_any hs'.2), fun σ H P ρ Q d fr er ev k => ?_⟩
  obtain ⟨ds, e1, ev1⟩ := Option.bind_eq_some_iff.mp ev
  refine q σ H P ρ _ ds fr er e1 fun vs H1 s1 r1 => ?_
  exact hr P H1 ds d vs Q (fr.same s1) r1 ev1 fun z H' s n tn => k z H' (s1.trans s) ⟨n, TopNew.back s1 tn⟩
theorem evN_callT {x : Str} {p : Pos} {T : String} {r : List V → Hp → VK → Prop} {op : List D → Option D} {e : Expr} {es : List Expr} {g : SA} (hc : CallR X (.type T) r) (hr : RcOk X.mg r op) (hg : Gl X x) (hm : X.mg x = none) (hv : bootBuiltins x = some (.type T))
    (hn : x ≠ "__name__") (hdb : (x == ("__debug__" : Str)) = false) (hs : (e :: es).all noStar = true) (ha : EvA X ks F [.B, .B, .B, .B] (e :: es) g) : EvN X ks F (.Call (.Name x p) (e :: es) [] pos) (cCall op g) := by
  obtain ⟨t, pt, q⟩ := ha.ex
  have hs' := hs
  rw [List.all_cons, Bool.and_eq_true] at hs'
  refine ⟨tCB r t, pe_callTy hc hg hm hv pt hn hdb (starEach_cons (noStar_ne hs'.1)) (backTo_any hs'.2), fun σ H P ρ Q d fr er ev k => ?_⟩
  obtain ⟨ds, e1, ev1⟩ := Option.bind_eq_some_iff.mp ev
  refine q σ H P ρ _ ds fr er e1 fun vs H1 s1 r1 => ?_
  exact hr P H1 ds d vs Q (fr.same s1) r1 ev1 fun z H' s n tn => k z H' (s1.trans s) ⟨n, TopNew.back s1 tn⟩
end
end RE
/-! RE4: operators on trees: arithmetic, == and <, in, is. -/
namespace L2
open PySem PySem.Spec PyProof.Rows
set_option maxHeartbeats 4000000
theorem tuple_mul_one (l : Addr) (items : Array Value) (n : Nat) (dd : Option Addr) (sl : Array (Option Value)) (u : Tok) :
    Meets (Builtin.«tuple.__mul__» ⟨[.ref l, .int 1 u], []⟩) (fun _ R s => s.heap.get? l = some { cls := .type "tuple", dict := dd, data := .seq items n, slots := sl } ∧ R (.ok (.ret (Value.ref l))) s) :=
  .of_wp fun prog w A R s h => by
    obtain ⟨hp, g, d, tk, os⟩ := s
    obtain ⟨hl, h⟩ := h
    have f1 := AutoSeq1.idx_int
    have c0 : (decide ((1 : Int) < -(2 ^ 63)) || decide ((1 : Int) ≥ 2 ^ 63)) = false := by decide
    have c1 : (items.isEmpty || (1 : Int) == 1) = true := by simp
    wp_walk using wpAny_loadPart' hl
    repeat (first
      | (refine wpAny_ite_false (decide_eq_false (by rw [c0]; exact Bool.false_ne_true)) ?_; wp_walk using wpAny_loadPart' hl)
      | (refine wpAny_ite_true (decide_eq_true c1) ?_; wp_walk using wpAny_loadPart' hl))
    all_goals (first | exact ⟨_, rfl, h⟩ | skip)
/-- a tuple once: the same one -/
def rRepT1 (K : PySem.W.Frag) : R2 := fun x y H Q => ∃ l xs, x = .ref l ∧ y = .int 1 ∧ SqT K H l xs ∧ Q (.ref l) H
theorem op_repT1 {X : Cx} : OpR X (binaryOp .Mult) (rRepT1 X.K) := by
  intro pins s σ H x y v u Q I rx ry h
  obtain ⟨l, xs, rfl, rfl, hT, q⟩ := h
  cases rx
  obtain ⟨t, rfl⟩ := ry
  obtain ⟨its, r, ⟨⟨cls, dd, data, sl⟩, ho, hc, n, hd⟩, hs⟩ := I.tuple hT
  simp only at hc hd
  subst hc hd
  refine wpAny_binaryOp_repeat_ref (T := "tuple") (U := "int") (by decide) ⟨_, ho, rfl⟩ (fun s' => typeIs_int s' 1 t) noFill_tuple_mul F.fills_int_mul F.slot_int_rmul repeat_tuple F.slot_int_index.lookup
    (call_meets F.slot_int_rmul (typeIs_int s 1 t) F.entry_int_rmul (F.args_int_rmul_2 _ _) (int_rmul_tuple 1 t l its.toArray n dd sl)
      ⟨ho, rfl, ⟨_, ho, rfl⟩, call_meets F.slot_tuple_mul ⟨_, ho, rfl⟩ F.entry_tuple_mul (F.args_tuple_mul_2 _ _) (tuple_mul_one l its.toArray n dd sl t) ⟨ho, ?_⟩⟩)
  exact ⟨.ref l, H, I, rfl, q⟩
theorem foldl_repN (its : Array Nat) : ∀ (m : Nat) (acc : Array Nat), (List.replicate m its).foldl (· ++ ·) acc = (acc.toList ++ (List.replicate m its.toList).flatten).toArray
  | 0, acc => by simp
  | m + 1, acc => by
    rw [List.replicate_succ, List.foldl_cons, foldl_repN its m, List.replicate_succ, List.flatten_cons, Array.toList_append, List.append_assoc]
/-- a text so many times -/
def mulS (z : Str) (k : Int) : Str := ⟨(List.replicate k.toNat z.cps.toList).flatten.toArray⟩
theorem mulS_len (z : Str) (k : Int) : (mulS z k).length = k.toNat * z.length := by
  show ((List.replicate k.toNat z.cps.toList).flatten.toArray).size = _
  rw [List.size_toArray, PyProof.Rows.lm_len_rep_flat, Array.length_toList]
  rfl
def rMulS : R2 := fun x y H Q => ∃ z k, x = .str z ∧ y = .int k ∧ 1 ≤ k ∧ k ≤ 1000 ∧ z.length ≤ 1000 ∧ Q (.str (mulS z k)) H
theorem op_mulS {X : Cx} : OpR X (binaryOp .Mult) rMulS := by
  intro pins s σ H x y v u Q I rx ry h
  obtain ⟨z, k, rfl, rfl, h1, h2, hz, q⟩ := h
  obtain ⟨t, rfl⟩ := (show ∃ t, v = .str z t from rx)
  obtain ⟨t', rfl⟩ := ry
  have hle : k.toNat * z.length ≤ 1000 * 1000 := Nat.mul_le_mul (by omega) hz
  have hfl : (⟨(List.replicate k.toNat z.cps).foldl (· ++ ·) #[]⟩ : Str) = mulS z k := by
    have := foldl_repN z.cps k.toNat #[]
    unfold mulS
    rw [this]
    simp
  have hlen := mulS_len z k
  refine P.mul_str ?_ (fun _ _ => ?_) (fun _ _ => ?_) ?_
  · rw [decide_eq_false (by omega), decide_eq_false (by omega)]; rfl
  · have : (2 ^ 63 - 1) / k ≥ 1000 := by
      refine Int.le_ediv_of_mul_le (by omega) ?_
      omega
    omega
  · unfold Builtin.Str.tooLong
    exact decide_eq_false (by rw [sizeLine_eq]; rw [Nat.mul_comm]; omega)
  · rw [if_neg (by omega)]
    by_cases c : (k == 1 || z.length == 0) = true
    · rw [if_pos c]
      have e : mulS z k = z := by
        unfold mulS
        rw [Bool.or_eq_true, beq_iff_eq, beq_iff_eq] at c
        rcases c with c | c
        · subst c
          show (⟨(List.replicate 1 z.cps.toList).flatten.toArray⟩ : Str) = z
          simp
        · have : z.cps.toList = [] := List.eq_nil_of_length_eq_zero (by rw [Array.length_toList]; exact c)
          have e2 : z.cps = #[] := by
            rw [← Array.toArray_toList (xs := z.cps), this]
          cases z with
          | mk cs => simp only at e2; subst e2; simp
      rw [e] at q
      exact ⟨.str z, H, I, ⟨t, rfl⟩, q⟩
    · rw [if_neg c, hfl]
      exact ⟨by rw [hlen, sizeLine_eq]; omega, .str _, H, I.tok _, ⟨_, rfl⟩, q⟩
end L2
namespace RE
open PySem PySem.Spec PyProof.Rows L2

/-! ### trees as the library's data -/
mutual
def toP : D → PyData
  | .non => .none
  | .bl b => .bool b
  | .int i => .int i
  | .str s => .str s
  | .tup xs => .tuple (toPs xs)
  | .lst xs => .list (toPs xs)
  | .dic _ _ => .none
  | .scr _ => .none
  | .fn _ => .none
def toPs : List D → List PyData
  | [] => []
  | d :: ds => toP d :: toPs ds
end
theorem toPs_map : ∀ ds : List D, toPs ds = ds.map toP
  | [] => by simp only [toPs, List.map_nil]
  | d :: ds => by simp only [toPs, List.map_cons, toPs_map ds]
/-- no dict, no def, no script within; at most so deep -/
def pd : Nat → D → Bool
  | _, .non => true
  | _, .bl _ => true
  | _, .int _ => true
  | _, .str _ => true
  | n + 1, .tup xs => xs.all (pd n)
  | n + 1, .lst xs => xs.all (pd n)
  | _, _ => false
theorem pds_ok {n : Nat} (ih : ∀ d, pd n d = true → (toP d).plain = true ∧ (toP d).depth ≤ n) : ∀ {xs : List D}, xs.all (pd n) = true → PyData.plainAll (toPs xs) = true ∧ PyData.depthAll (toPs xs) ≤ n
  | [], _ => by simp [toPs, PyData.plainAll, PyData.depthAll]
  | d :: ds, h => by
    rw [List.all_cons, Bool.and_eq_true] at h
    have h1 := ih d h.1
    have h2 := pds_ok ih h.2
    simp only [toPs, PyData.plainAll, PyData.depthAll, Bool.and_eq_true]
    exact ⟨⟨h1.1, h2.1⟩, Nat.max_le.mpr ⟨h1.2, h2.2⟩⟩
theorem pd_ok : ∀ (n : Nat) (d : D), pd n d = true → (toP d).plain = true ∧ (toP d).depth ≤ n
  | n, .non, _ => by simp [toP, PyData.plain, PyData.depth]
  | n, .bl b, _ => by simp [toP, PyData.plain, PyData.depth]
  | n, .int i, _ => by simp [toP, PyData.plain, PyData.depth]
  | n, .str s, _ => by simp [toP, PyData.plain, PyData.depth]
  | 0, .tup xs, h => by simp [pd] at h
  | 0, .lst xs, h => by simp [pd] at h
  | n + 1, .tup xs, h => by
    have := pds_ok (pd_ok n) (xs := xs) (by simpa only [pd] using h)
    simp only [toP, PyData.plain, PyData.depth]
    exact ⟨this.1, Nat.succ_le_succ this.2⟩
  | n + 1, .lst xs, h => by
    have := pds_ok (pd_ok n) (xs := xs) (by simpa only [pd] using h)
    simp only [toP, PyData.plain, PyData.depth]
    exact ⟨this.1, Nat.succ_le_succ this.2⟩
  | n, .dic _ _, h => by cases n <;> simp [pd] at h
  | n, .scr _, h => by cases n <;> simp [pd] at h
  | n, .fn _, h => by cases n <;> simp [pd] at h

mutual
theorem Rep.dp {K : PySem.W.Frag} {P : Addr → Prop} {H : Hp} : ∀ (d : D) (v : V), (toP d).plain = true → (∀ t f, d ≠ .dic t f) → (∀ f, d ≠ .scr f) → (∀ n x, pd n d = x → True) → Rep P H d v → (∃ n, pd n d = true) → Dp K H v (toP d)
  | .non, v, _, _, _, _, h, _ => by simp only [Rep] at h; subst h; simp only [toP]; exact .non
  | .bl b, v, _, _, _, _, h, _ => by simp only [Rep] at h; subst h; simp only [toP]; exact .bl b
  | .int i, v, _, _, _, _, h, _ => by simp only [Rep] at h; subst h; simp only [toP]; exact .int i
  | .str s, v, _, _, _, _, h, _ => by simp only [Rep] at h; subst h; simp only [toP]; exact .str s
  | .tup ds, v, _, _, _, _, h, ⟨n, hn⟩ => by
    simp only [Rep] at h
    obtain ⟨a, vs, rfl, h1, h2⟩ := h
    cases n with
    | zero => simp [pd] at hn
    | succ n => simp only [toP]; exact .tup (SqT.of h1) (RepL.dp ds vs h2 ⟨n, by simpa only [pd] using hn⟩)
  | .lst ds, v, _, _, _, _, h, ⟨n, hn⟩ => by
    simp only [Rep] at h
    obtain ⟨a, vs, rfl, _, h1, h2⟩ := h
    cases n with
    | zero => simp [pd] at hn
    | succ n => simp only [toP]; exact .lst (SqL.of h1) (RepL.dp ds vs h2 ⟨n, by simpa only [pd] using hn⟩)
  | .dic t kvs, v, _, hd, _, _, _, _ => absurd rfl (hd t kvs)
  | .scr ns, v, _, _, hs, _, _, _ => absurd rfl (hs ns)
  | .fn f, v, _, _, _, _, h, _ => by simp only [Rep] at h
theorem RepL.dp {K : PySem.W.Frag} {P : Addr → Prop} {H : Hp} : ∀ (ds : List D) (vs : List V), RepL P H ds vs → (∃ n, ds.all (pd n) = true) → DpAll K H vs (toPs ds)
  | [], vs, h, _ => by simp only [RepL] at h; subst h; simp only [toPs]; exact .nil
  | d :: ds, vs, h, ⟨n, hn⟩ => by
    simp only [RepL] at h
    obtain ⟨v, r, rfl, h1, h2⟩ := h
    rw [List.all_cons, Bool.and_eq_true] at hn
    simp only [toPs]
    refine .cons (Rep.dp d v (pd_ok n d hn.1).1 (fun t f e => ?_) (fun f e => ?_) (fun _ _ _ => trivial) h1 ⟨n, hn.1⟩) (RepL.dp ds r h2 ⟨n, hn.2⟩)
    · subst e; have := hn.1; cases n <;> simp [pd] at this
    · subst e; have := hn.1; cases n <;> simp [pd] at this
end
theorem RepB.dp {mg : Str → Option Value} {K : PySem.W.Frag} {P : Addr → Prop} {H : Hp} {d : D} {v : V} {n : Nat} (h : RepB mg P H d v) (hn : pd n d = true) : Dp K H v (toP d) := by
  cases d with
  | non => simp only [RepB] at h; subst h; simp only [toP]; exact .non
  | bl b => simp only [RepB] at h; subst h; simp only [toP]; exact .bl b
  | int i => simp only [RepB] at h; subst h; simp only [toP]; exact .int i
  | str s => simp only [RepB] at h; subst h; simp only [toP]; exact .str s
  | tup ds =>
    simp only [RepB, Rep] at h
    obtain ⟨a, vs, rfl, h1, h2⟩ := h
    cases n with
    | zero => simp [pd] at hn
    | succ n => simp only [toP]; exact .tup (SqT.of h1) (RepL.dp ds vs h2 ⟨n, by simpa only [pd] using hn⟩)
  | lst ds =>
    simp only [RepB] at h
    obtain ⟨a, vs, rfl, h1, h2⟩ := h
    cases n with
    | zero => simp [pd] at hn
    | succ n => simp only [toP]; exact .lst (SqL.of h1) (RepL.dp ds vs h2 ⟨n, by simpa only [pd] using hn⟩)
  | dic t kvs => cases n <;> simp [pd] at hn
  | scr ns => cases n <;> simp [pd] at hn
  | fn f => cases n <;> simp [pd] at hn

/-- == of trees, as Python says of plain ones -/
def eqv (d e : D) : Bool := PyData.eqv (toP d) (toP e)
def eqvL (ds es : List D) : Bool := PyData.eqvAll (toPs ds) (toPs es)
/-- < of trees that are alike -/
def ltv (d e : D) : Bool := PySem.W.dataLt (toP d) (toP e)
def alk (d e : D) : Bool := PySem.W.alike (toP d) (toP e)
def pd2 (d e : D) : Bool := pd 64 d && pd 64 e
def eqD (d e : D) : Option D := if pd2 d e then some (.bl (eqv d e)) else none
def neD (d e : D) : Option D := if pd2 d e then some (.bl (!eqv d e)) else none
def isNon : D → Bool
  | .non => true
  | _ => false
def cmpOk (d e : D) : Bool := pd2 d e && alk d e && !isNon d
def ltD (d e : D) : Option D := if cmpOk d e then some (.bl (ltv d e)) else none
def gtD (d e : D) : Option D := if cmpOk d e then some (.bl (ltv e d)) else none
def leD (d e : D) : Option D := if cmpOk d e then some (.bl (!ltv e d)) else none
def geD (d e : D) : Option D := if cmpOk d e then some (.bl (!ltv d e)) else none

theorem isNon_toP {d : D} {n : Nat} (h : pd n d = true) (hn : isNon d = false) : toP d ≠ .none := by
  cases d <;> simp only [toP] <;> first | (intro e; cases e; done) | skip
  · cases hn
  · cases n <;> simp [pd] at h
  · cases n <;> simp [pd] at h
  · cases n <;> simp [pd] at h

section
variable {X : Cx}
/-- by data: what a comparison gives on two things that read as data -/
def rData (K : PySem.W.Frag) (ok : PyData → PyData → Prop) (g : PyData → PyData → Bool) : R2 := fun x y H Q => ∃ d e, Dp K H x d ∧ Dp K H y e ∧ d.plain = true ∧ e.plain = true ∧ d.depth ≤ 64 ∧ e.depth ≤ 64 ∧ ok d e ∧ Q (.bl (g d e)) H
theorem op_data {op : CmpOp} {ok : PyData → PyData → Prop} {g : PyData → PyData → Bool} (hu : X.A.units + 64 < cLine)
    (hc : ∀ {E : Value → Shared → Prop} {s : Shared} {a b : Value} {da db : PyData} {as bs : List Addr} {Q : Value → Shared → Prop}, Reads s.heap a da as → Reads s.heap b db bs → da.plain = true → db.plain = true → ok da db → X.A.units + min da.depth db.depth < cLine → Q (.bool (g da db)) s → wpAny (model X.prog X.w) X.A (compareOp op a b) Q E s) :
    OpR X (compareOp op) (rData X.K ok g) := by
  intro pins s σ H x y v u Q I rx ry h
  obtain ⟨d, e, hd, he, pd, pe, dd, de, hok, q⟩ := h
  obtain ⟨as, r1⟩ := Dp.reads I d x v hd rx
  obtain ⟨bs, r2⟩ := Dp.reads I e y u he ry
  refine hc r1 r2 pd pe hok ?_ ⟨.bl _, H, I, rfl, q⟩
  have : min d.depth e.depth ≤ d.depth := Nat.min_le_left _ _
  omega
theorem op_eqP (hu : X.A.units + 64 < cLine) : OpR X (compareOp .Eq) (rData X.K (fun _ _ => True) PyData.eqv) := op_data hu fun ra rb ha hb _ hu hq => PySem.SeqAt.eq_plain ra rb ha hb hu hq
theorem op_neP (hu : X.A.units + 64 < cLine) : OpR X (compareOp .NotEq) (rData X.K (fun _ _ => True) fun d e => !PyData.eqv d e) := op_data hu fun ra rb ha hb _ hu hq => PySem.SeqAt.ne_plain ra rb ha hb hu hq
abbrev okC (d e : PyData) : Prop := PySem.W.alike d e = true ∧ d ≠ .none
theorem op_ltP (hu : X.A.units + 64 < cLine) : OpR X (compareOp .Lt) (rData X.K okC fun d e => PySem.W.dataLt d e) := op_data hu fun ra rb ha hb h hu hq => PySem.W.lt_data ra rb h.1 h.2 hu hq
theorem op_gtP (hu : X.A.units + 64 < cLine) : OpR X (compareOp .Gt) (rData X.K okC fun d e => PySem.W.dataLt e d) := op_data hu fun ra rb ha hb h hu hq => PySem.W.gt_data ra rb h.1 h.2 hu hq
theorem op_leP (hu : X.A.units + 64 < cLine) : OpR X (compareOp .LtE) (rData X.K okC fun d e => !PySem.W.dataLt e d) := op_data hu fun ra rb ha hb h hu hq => PySem.W.le_data ra rb h.1 h.2 hu hq
theorem op_geP (hu : X.A.units + 64 < cLine) : OpR X (compareOp .GtE) (rData X.K okC fun d e => !PySem.W.dataLt d e) := op_data hu fun ra rb ha hb h hu hq => PySem.W.ge_data ra rb h.1 h.2 hu hq
end
theorem r2_data {mg : Str → Option Value} {K : PySem.W.Frag} {ok : PyData → PyData → Prop} {g : PyData → PyData → Bool} {op : D → D → Option D}
    (hop : ∀ d e r, op d e = some r → pd 64 d = true ∧ pd 64 e = true ∧ ok (toP d) (toP e) ∧ r = .bl (g (toP d) (toP e))) : R2Ok mg (rData K ok g) op := by
  intro P H x y d v w Q fr rx ry e k
  obtain ⟨h1, h2, h3, rfl⟩ := hop x y d e
  exact ⟨toP x, toP y, rx.dp h1, ry.dp h2, (pd_ok _ _ h1).1, (pd_ok _ _ h2).1, (pd_ok _ _ h1).2, (pd_ok _ _ h2).2, h3, k _ H (Same.refl H) (by simp only [Rep]) trivial⟩
theorem pd2_of {d e : D} (h : pd2 d e = true) : pd 64 d = true ∧ pd 64 e = true := by unfold pd2 at h; rwa [Bool.and_eq_true] at h
theorem eqD_ok {mg K} : R2Ok mg (rData K (fun _ _ => True) PyData.eqv) eqD := r2_data fun d e r h => by
  unfold eqD at h; split at h
  · rename_i c; cases h; exact ⟨(pd2_of c).1, (pd2_of c).2, trivial, rfl⟩
  · cases h
theorem neD_ok {mg K} : R2Ok mg (rData K (fun _ _ => True) fun d e => !PyData.eqv d e) neD := r2_data fun d e r h => by
  unfold neD at h; split at h
  · rename_i c; cases h; exact ⟨(pd2_of c).1, (pd2_of c).2, trivial, rfl⟩
  · cases h
theorem cmpOk_of {d e : D} (h : cmpOk d e = true) : pd 64 d = true ∧ pd 64 e = true ∧ okC (toP d) (toP e) := by
  unfold cmpOk at h
  rw [Bool.and_eq_true, Bool.and_eq_true, Bool.not_eq_true'] at h
  obtain ⟨⟨h1, h2⟩, h3⟩ := h
  exact ⟨(pd2_of h1).1, (pd2_of h1).2, h2, isNon_toP (pd2_of h1).1 h3⟩
theorem ltD_ok {mg K} : R2Ok mg (rData K okC fun d e => PySem.W.dataLt d e) ltD := r2_data fun d e r h => by
  unfold ltD at h; split at h
  · rename_i c; cases h; exact ⟨(cmpOk_of c).1, (cmpOk_of c).2.1, (cmpOk_of c).2.2, rfl⟩
  · cases h
theorem gtD_ok {mg K} : R2Ok mg (rData K okC fun d e => PySem.W.dataLt e d) gtD := r2_data fun d e r h => by
  unfold gtD at h; split at h
  · rename_i c; cases h; exact ⟨(cmpOk_of c).1, (cmpOk_of c).2.1, (cmpOk_of c).2.2, rfl⟩
  · cases h
theorem leD_ok {mg K} : R2Ok mg (rData K okC fun d e => !PySem.W.dataLt e d) leD := r2_data fun d e r h => by
  unfold leD at h; split at h
  · rename_i c; cases h; exact ⟨(cmpOk_of c).1, (cmpOk_of c).2.1, (cmpOk_of c).2.2, rfl⟩
  · cases h
theorem geD_ok {mg K} : R2Ok mg (rData K okC fun d e => !PySem.W.dataLt d e) geD := r2_data fun d e r h => by
  unfold geD at h; split at h
  · rename_i c; cases h; exact ⟨(cmpOk_of c).1, (cmpOk_of c).2.1, (cmpOk_of c).2.2, rfl⟩
  · cases h

/-! ### arithmetic -/
/-- not too great for the model's // and * -/
def wid (i : Int) : Bool := decide (i.natAbs.log2 < 9000)
def wim (i : Int) : Bool := decide (i.natAbs.log2 < 400000)
def addD : D → D → Option D
  | .int i, .int j => some (.int (i + j))
  | .str a, .str b => if fits (a.length + b.length) then some (.str (a ++ b)) else none
  | .lst a, .lst b => if fits (a.length + b.length) then some (.lst (a ++ b)) else none
  | .tup a, .tup b => if fits (a.length + b.length) then some (.tup (a ++ b)) else none
  | _, _ => none
def subD : D → D → Option D
  | .int i, .int j => some (.int (i - j))
  | _, _ => none
def modD : D → D → Option D
  | .int i, .int j => if j != 0 then some (.int (i.fmod j)) else none
  | _, _ => none
def fdivD : D → D → Option D
  | .int i, .int j => if j != 0 && wid j then some (.int (i.fdiv j)) else none
  | _, _ => none
def powD : D → D → Option D
  | .int i, .int j => if decide (0 ≤ j) && decide (j ≤ 1000) && decide (i.natAbs < 1000) then some (.int (i ^ j.toNat)) else none
  | _, _ => none
def repL {α : Type} (k : Int) (xs : List α) : List α := (List.replicate k.toNat xs).flatten
def mulD : D → D → Option D
  | .int i, .int j => if wim i && wim j then some (.int (i * j)) else none
  | .lst xs, .int k => if decide (-1000 ≤ k) && decide (k ≤ 1000) && fits (xs.length * k.toNat) then some (.lst (repL k xs)) else none
  | .tup xs, .int k => if k = 1 then some (.tup xs) else if decide (2 ≤ k) && decide (k ≤ 1000) && decide (xs.length ≤ 1000) && !xs.isEmpty then some (.tup (repL k xs)) else none
  | .str z, .int k => if decide (1 ≤ k) && decide (k ≤ 1000) && decide (z.length ≤ 1000) then some (.str (mulS z k)) else none
  | _, _ => none
theorem RepL.app {P : Addr → Prop} {H : Hp} : ∀ {ds es : List D} {vs ws : List V}, RepL P H ds vs → RepL P H es ws → RepL P H (ds ++ es) (vs ++ ws)
  | [], _, _, _, h, g => by simp only [RepL] at h; subst h; exact g
  | d :: ds, es, vs, ws, h, g => by
    simp only [RepL] at h
    obtain ⟨v, r, rfl, h1, h2⟩ := h
    show RepL P H (d :: (ds ++ es)) (v :: (r ++ ws))
    simp only [RepL]
    exact ⟨v, r ++ ws, rfl, h1, RepL.app h2 g⟩
theorem RepL.rep {P : Addr → Prop} {H : Hp} {ds : List D} {vs : List V} (h : RepL P H ds vs) : ∀ n : Nat, RepL P H (List.replicate n ds).flatten (List.replicate n vs).flatten
  | 0 => by simp only [List.replicate_zero, List.flatten_nil, RepL]
  | n + 1 => by simp only [List.replicate_succ, List.flatten_cons]; exact h.app (h.rep n)
/-- the places of a tuple, of a list -/
theorem RepB.tup {mg : Str → Option Value} {P : Addr → Prop} {H : Hp} {ds : List D} {v : V} (h : RepB mg P H (.tup ds) v) : ∃ a vs, v = .ref a ∧ H a = some (.tup vs) ∧ RepL P H ds vs := by simpa only [RepB, Rep] using h
theorem RepB.lst {mg : Str → Option Value} {P : Addr → Prop} {H : Hp} {ds : List D} {v : V} (h : RepB mg P H (.lst ds) v) : ∃ a vs, v = .ref a ∧ H a = some (.lst vs) ∧ RepL P H ds vs := by simpa only [RepB] using h
theorem rep_newL {P : Addr → Prop} {H : Hp} {p : Addr} {ds : List D} {vs : List V} (fr : Fre P H) (hp : H p = none) (h : RepL P H ds vs) : Rep P (upd H p (.lst vs)) (.lst ds) (.ref p) := by
  simp only [Rep]
  exact ⟨p, vs, rfl, fr p hp, upd_same, h.same (same_new hp)⟩
theorem rep_newT {P : Addr → Prop} {H : Hp} {p : Addr} {ds : List D} {vs : List V} (hp : H p = none) (h : RepL P H ds vs) : Rep P (upd H p (.tup vs)) (.tup ds) (.ref p) := by
  simp only [Rep]
  exact ⟨p, vs, rfl, upd_same, h.same (same_new hp)⟩
theorem topNew_ref {H : Hp} {p : Addr} {d : D} (hp : H p = none) : TopNew H d (.ref p) := by
  cases d <;> simp only [TopNew] <;> (intro a e; cases e; exact hp)
abbrev rAddD (K : PySem.W.Frag) : R2 := fun x y H Q => rI0 (fun i j => .int (i + j)) x y H Q ∨ (∃ i j, x = .str i ∧ y = .str j ∧ i.length + j.length ≤ sizeLine ∧ Q (.str (i ++ j)) H) ∨ rCat x y H Q ∨ rCatA K x y H Q
theorem op_addD {X : Cx} : OpR X (binaryOp .Add) (rAddD X.K) := op_add.or (op_add_str.or (op_cat.or op_catA))
theorem addD_ok {mg K} : R2Ok mg (rAddD K) addD := by
  intro P H x y d v w Q fr rx ry e k
  cases x <;> cases y <;> simp only [addD] at e <;> first | (cases e; done) | skip
  · cases e
    simp only [RepB] at rx ry
    exact .inl ⟨_, _, rx, ry, k _ H (Same.refl H) (by simp only [Rep]) trivial⟩
  · split at e
    · rename_i c
      cases e
      simp only [RepB] at rx ry
      exact .inr (.inl ⟨_, _, rx, ry, of_decide_eq_true c, k _ H (Same.refl H) (by simp only [Rep]) trivial⟩)
    · cases e
  · split at e
    · rename_i c
      cases e
      obtain ⟨a, vs, rfl, ha, r1⟩ := rx.tup
      obtain ⟨b, ws, rfl, hb, r2⟩ := ry.tup
      refine .inr (.inr (.inr ⟨a, b, vs, ws, rfl, rfl, SqT.of ha, SqT.of hb, ?_, fun z => ?_, fun _ z => ?_, fun _ _ p hp => ?_⟩))
      · rw [r1.len, r2.len]; exact of_decide_eq_true c
      · refine k _ H (Same.refl H) ?_ trivial
        subst z
        have r3 := r1.app r2
        simp only [Rep]
        exact ⟨b, ws, rfl, hb, by simpa using r3⟩
      · refine k _ H (Same.refl H) ?_ trivial
        subst z
        have r3 := r1.app r2
        simp only [Rep]
        exact ⟨a, vs, rfl, ha, by simpa using r3⟩
      · exact k _ _ (same_new hp) (rep_newT hp (r1.app r2)) trivial
    · cases e
  · split at e
    · rename_i c
      cases e
      obtain ⟨a, vs, rfl, ha, r1⟩ := rx.lst
      obtain ⟨b, ws, rfl, hb, r2⟩ := ry.lst
      refine .inr (.inr (.inl ⟨a, b, vs, ws, rfl, rfl, ha, hb, ?_, fun p hp => ?_⟩))
      · rw [r1.len, r2.len]; exact of_decide_eq_true c
      · exact k _ _ (same_new hp) (rep_newL fr hp (r1.app r2)) (topNew_ref hp)
    · cases e
theorem subD_ok {mg} : R2Ok mg (rI0 fun i j => .int (i - j)) subD := by
  intro P H x y d v w Q fr rx ry e k
  cases x <;> cases y <;> simp only [subD] at e <;> first | (cases e; done) | skip
  cases e
  simp only [RepB] at rx ry
  exact ⟨_, _, rx, ry, k _ H (Same.refl H) (by simp only [Rep]) trivial⟩
theorem modD_ok {mg} : R2Ok mg (rI (fun _ j => j ≠ 0) fun i j => .int (i.fmod j)) modD := by
  intro P H x y d v w Q fr rx ry e k
  cases x <;> cases y <;> simp only [modD] at e <;> first | (cases e; done) | skip
  split at e
  · rename_i c
    cases e
    simp only [RepB] at rx ry
    exact ⟨_, _, rx, ry, by simpa using c, k _ H (Same.refl H) (by simp only [Rep]) trivial⟩
  · cases e
theorem op_fdivA {X : Cx} : OpR X (binaryOp .FloorDiv) (rI (fun _ j => j ≠ 0 ∧ j.natAbs.log2 < 9000) fun i j => .int (i.fdiv j)) := opI fun _ _ _ _ _ _ _ hc q => floordiv_int hc.1 q (.inl (PyProof.noPylong_of_log2 hc.2))
theorem fdivD_ok {mg} : R2Ok mg (rI (fun _ j => j ≠ 0 ∧ j.natAbs.log2 < 9000) fun i j => .int (i.fdiv j)) fdivD := by
  intro P H x y d v w Q fr rx ry e k
  cases x <;> cases y <;> simp only [fdivD] at e <;> first | (cases e; done) | skip
  split at e
  · rename_i c
    cases e
    simp only [RepB] at rx ry
    rw [Bool.and_eq_true] at c
    exact ⟨_, _, rx, ry, ⟨by simpa using c.1, of_decide_eq_true c.2⟩, k _ H (Same.refl H) (by simp only [Rep]) trivial⟩
  · cases e
theorem powD_ok {mg} : R2Ok mg (rI CPow fun i j => .int (i ^ j.toNat)) powD := by
  intro P H x y d v w Q fr rx ry e k
  cases x <;> cases y <;> simp only [powD] at e <;> first | (cases e; done) | skip
  split at e
  · rename_i c
    cases e
    simp only [RepB] at rx ry
    rw [Bool.and_eq_true, Bool.and_eq_true, decide_eq_true_eq, decide_eq_true_eq, decide_eq_true_eq] at c
    exact ⟨_, _, rx, ry, ⟨c.1.1, by omega, by have := c.2; omega⟩, k _ H (Same.refl H) (by simp only [Rep]) trivial⟩
  · cases e
abbrev rMulD (K : PySem.W.Frag) : R2 := fun x y H Q => rI CMulW (fun i j => .int (i * j)) x y H Q ∨ rRep x y H Q ∨ rRepT K x y H Q ∨ rRepT1 K x y H Q ∨ rMulS x y H Q
theorem op_mulD {X : Cx} : OpR X (binaryOp .Mult) (rMulD X.K) := op_mulW.or (op_rep.or (op_repT.or (op_repT1.or op_mulS)))
theorem mulD_ok {mg K} : R2Ok mg (rMulD K) mulD := by
  intro P H x y d v w Q fr rx ry e k
  cases x <;> cases y <;> simp only [mulD] at e <;> first | (cases e; done) | skip
  · split at e
    · rename_i c
      cases e
      simp only [RepB] at rx ry
      rw [Bool.and_eq_true] at c
      have h1 := of_decide_eq_true c.1
      have h2 := of_decide_eq_true c.2
      exact .inl ⟨_, _, rx, ry, by unfold CMulW; omega, k _ H (Same.refl H) (by simp only [Rep]) trivial⟩
    · cases e
  · split at e
    · rename_i c
      cases e
      rw [Bool.and_eq_true, Bool.and_eq_true, decide_eq_true_eq, decide_eq_true_eq, decide_eq_true_eq] at c
      simp only [RepB] at rx ry
      exact .inr (.inr (.inr (.inr ⟨_, _, rx, ry, c.1.1, c.1.2, c.2, k _ H (Same.refl H) (by simp only [Rep]) trivial⟩)))
    · cases e
  · split at e
    · rename_i c1
      cases e
      obtain ⟨a, vs, rfl, ha, r1⟩ := rx.tup
      simp only [RepB] at ry
      subst c1
      exact .inr (.inr (.inr (.inl ⟨a, vs, rfl, ry, SqT.of ha, k _ H (Same.refl H) (by simp only [Rep]; exact ⟨a, vs, rfl, ha, r1⟩) trivial⟩)))
    split at e
    · rename_i c
      cases e
      rw [Bool.and_eq_true, Bool.and_eq_true, Bool.and_eq_true, decide_eq_true_eq, decide_eq_true_eq, decide_eq_true_eq] at c
      obtain ⟨⟨⟨c1, c2⟩, c3⟩, c4⟩ := c
      obtain ⟨a, vs, rfl, ha, r1⟩ := rx.tup
      simp only [RepB] at ry
      refine .inr (.inr (.inl ⟨a, _, vs, rfl, ry, SqT.of ha, ?_, c1, c2, by rw [r1.len]; exact c3, fun p hp => ?_⟩))
      · intro z
        have := r1.isEmpty
        rw [z] at this
        rw [← this] at c4
        cases c4
      · exact k _ _ (same_new hp) (rep_newT hp (r1.rep _)) trivial
    · cases e
  · split at e
    · rename_i c
      cases e
      rw [Bool.and_eq_true, Bool.and_eq_true, decide_eq_true_eq, decide_eq_true_eq] at c
      obtain ⟨⟨c1, c2⟩, c3⟩ := c
      obtain ⟨a, vs, rfl, ha, r1⟩ := rx.lst
      simp only [RepB] at ry
      refine .inr (.inl ⟨a, _, vs, rfl, ry, ha, by omega, by omega, by rw [r1.len]; exact of_decide_eq_true c3, fun p hp => ?_⟩)
      exact k _ _ (same_new hp) (rep_newL fr hp (r1.rep _)) (topNew_ref hp)
    · cases e

/-! ### unary -/
def negD : D → Option D
  | .int i => some (.int (-i))
  | _ => none
theorem negD_ok {mg} : R1Ok mg (rU fun i => .int (-i)) negD := by
  intro P H x d v Q fr rx e k
  cases x <;> simp only [negD] at e <;> first | (cases e; done) | skip
  cases e
  simp only [RepB] at rx
  exact ⟨_, rx, k _ H (Same.refl H) (by simp only [Rep]) trivial⟩

/-! ### is -/
def isD : D → D → Option D
  | x, .non => some (.bl (isNon x))
  | .bl a, .bl b => some (.bl (decide (a = b)))
  | _, _ => none
def isntD : D → D → Option D
  | x, .non => some (.bl (!isNon x))
  | .bl a, .bl b => some (.bl (!decide (a = b)))
  | _, _ => none
abbrev rIsD : R2 := fun x y H Q => (y = .non ∧ Q (.bl (decide (x = .non))) H) ∨ ∃ a b, x = .bl a ∧ y = .bl b ∧ Q (.bl (decide (a = b))) H
abbrev rIsntD : R2 := fun x y H Q => (y = .non ∧ Q (.bl (!decide (x = .non))) H) ∨ ∃ a b, x = .bl a ∧ y = .bl b ∧ Q (.bl (!decide (a = b))) H
theorem op_isD {X : Cx} : OpR X (compareOp .Is) rIsD := op_isN.or op_isBl
theorem op_isntD {X : Cx} : OpR X (compareOp .IsNot) rIsntD := op_notN.or op_notBl
theorem RepB.isNon {mg : Str → Option Value} {P : Addr → Prop} {H : Hp} {d : D} {v : V} (r : RepB mg P H d v) : decide (v = .non) = isNon d := by
  cases d <;> simp only [RepB, Rep] at r <;> simp only [RE.isNon]
  · subst r; rfl
  · subst r; rfl
  · subst r; rfl
  · subst r; rfl
  · obtain ⟨a, vs, rfl, _⟩ := r; rfl
  · obtain ⟨a, vs, rfl, _⟩ := r; rfl
  · obtain ⟨a, vs, rfl, _⟩ := r; rfl
  · obtain ⟨a, vs, rfl, _⟩ := r; rfl
  · obtain ⟨a, rfl, _⟩ := r; rfl
theorem isD_ok {mg} : R2Ok mg rIsD isD := by
  intro P H x y d v w Q fr rx ry e k
  unfold isD at e
  split at e
  · cases e
    simp only [RepB] at ry
    refine .inl ⟨ry, ?_⟩
    rw [rx.isNon]
    exact k _ H (Same.refl H) (by simp only [Rep]) trivial
  · cases e
    simp only [RepB] at rx ry
    exact .inr ⟨_, _, rx, ry, k _ H (Same.refl H) (by simp only [Rep]) trivial⟩
  · cases e
theorem isntD_ok {mg} : R2Ok mg rIsntD isntD := by
  intro P H x y d v w Q fr rx ry e k
  unfold isntD at e
  split at e
  · cases e
    simp only [RepB] at ry
    refine .inl ⟨ry, ?_⟩
    rw [rx.isNon]
    exact k _ H (Same.refl H) (by simp only [Rep]) trivial
  · cases e
    simp only [RepB] at rx ry
    exact .inr ⟨_, _, rx, ry, k _ H (Same.refl H) (by simp only [Rep]) trivial⟩
  · cases e
end RE
/-! RE5: indexes, slices, in, built-ins. -/
namespace RE
open PySem PySem.Spec PyProof.Rows L2

theorem pe_or2 {X : Cx} {e : Expr} {t u : TE} (h : PE X e t) (g : PE X e u) : PE X e (fun σ H Q => t σ H Q ∨ u σ H Q) :=
  ⟨fun pins s σ H Q I q => q.elim (h.run pins s σ H Q I) (g.run pins s σ H Q I)⟩

theorem RepL.get {P : Addr → Prop} {H : Hp} : ∀ {ds : List D} {vs : List V} {i : Nat} {d : D}, RepL P H ds vs → ds[i]? = some d → ∃ v, vs[i]? = some v ∧ Rep P H d v
  | [], _, i, d, _, e => by simp at e
  | d0 :: ds, vs, 0, d, h, e => by
    simp only [RepL] at h
    obtain ⟨v, r, rfl, h1, _⟩ := h
    simp at e; subst e
    exact ⟨v, rfl, h1⟩
  | d0 :: ds, vs, i + 1, d, h, e => by
    simp only [RepL] at h
    obtain ⟨v, r, rfl, _, h2⟩ := h
    obtain ⟨u, e1, r1⟩ := RepL.get (i := i) (d := d) h2 (by simpa using e)
    exact ⟨u, by simpa using e1, r1⟩
theorem RepL.drop {P : Addr → Prop} {H : Hp} : ∀ {ds : List D} {vs : List V} (n : Nat), RepL P H ds vs → RepL P H (ds.drop n) (vs.drop n)
  | _, _, 0, h => h
  | [], _, n + 1, h => by simp only [RepL] at h; subst h; simp [RepL]
  | d :: ds, vs, n + 1, h => by
    simp only [RepL] at h
    obtain ⟨v, r, rfl, _, h2⟩ := h
    exact RepL.drop n h2
theorem RepL.take {P : Addr → Prop} {H : Hp} : ∀ {ds : List D} {vs : List V} (n : Nat), RepL P H ds vs → RepL P H (ds.take n) (vs.take n)
  | _, _, 0, _ => by simp [RepL]
  | [], _, n + 1, h => by simp only [RepL] at h; subst h; simp [RepL]
  | d :: ds, vs, n + 1, h => by
    simp only [RepL] at h
    obtain ⟨v, r, rfl, h1, h2⟩ := h
    simp only [List.take_succ_cons, RepL]
    exact ⟨v, _, rfl, h1, RepL.take n h2⟩
theorem RepL.atI {P : Addr → Prop} {H : Hp} {ds : List D} {vs : List V} {i : Int} {d : D} (h : RepL P H ds vs) (e : L2.atI ds i = some d) : ∃ v, L2.atI vs i = some v ∧ Rep P H d v := by
  unfold L2.atI at e ⊢
  rw [← h.len] at e
  obtain ⟨j, e1, e2⟩ := Option.bind_eq_some_iff.mp e
  obtain ⟨v, e3, r⟩ := h.get e2
  exact ⟨v, by rw [e1]; exact e3, r⟩

/-! ### dicts by keys -/
def keyA : D → Option Key
  | .int i => some (.inl i)
  | .str s => some (.inr s)
  | _ => none
def keysA : List D → Option (List Key)
  | [] => some []
  | d :: ds => (keyA d).bind fun k => (keysA ds).bind fun ks => some (k :: ks)
def keyT : D → Option (List Key)
  | .tup xs => keysA xs
  | _ => none
theorem keyA_keyD (k : Key) : keyA (keyD k) = some k := by cases k <;> rfl
theorem keyA_some {d : D} {k : Key} (h : keyA d = some k) : d = keyD k := by
  cases d <;> simp [keyA] at h <;> subst h <;> rfl
theorem keysA_map : ∀ ks : List Key, keysA (ks.map keyD) = some ks
  | [] => rfl
  | k :: ks => by simp only [List.map_cons, keysA, keyA_keyD, keysA_map ks]; rfl
theorem keysA_some : ∀ {ds : List D} {ks : List Key}, keysA ds = some ks → ds = ks.map keyD
  | [], ks, h => by simp [keysA] at h; subst h; rfl
  | d :: ds, ks, h => by
    simp only [keysA] at h
    obtain ⟨k, e1, h⟩ := Option.bind_eq_some_iff.mp h
    obtain ⟨ks', e2, h⟩ := Option.bind_eq_some_iff.mp h
    cases h
    rw [keyA_some e1, keysA_some e2]; rfl
theorem keyT_some {d : D} {ks : List Key} (h : keyT d = some ks) : d = .tup (ks.map keyD) := by
  cases d <;> simp [keyT] at h
  rw [keysA_some h]
/-- what a dict holds at a key of its kind -/
def dget (t : Bool) (kvs : List (D × D)) (k : D) : Option (Option D) :=
  match t with
  | false => (keyA k).map fun q => (kvs.find? fun p => decide (keyA p.1 = some q)).map (·.2)
  | true => (keyT k).map fun q => (kvs.find? fun p => decide (keyT p.1 = some q)).map (·.2)
/-- in its place, or at the end -/
def dput (t : Bool) (kvs : List (D × D)) (k v : D) : Option (List (D × D)) :=
  match t with
  | false => (keyA k).map fun q => if (kvs.any fun p => decide (keyA p.1 = some q)) = true then kvs.map (fun p => if keyA p.1 = some q then (p.1, v) else p) else kvs ++ [(k, v)]
  | true => (keyT k).map fun q => if (kvs.any fun p => decide (keyT p.1 = some q)) = true then kvs.map (fun p => if keyT p.1 = some q then (p.1, v) else p) else kvs ++ [(k, v)]

section
variable {P : Addr → Prop} {H : Hp} {κ : Type} [DecidableEq κ]
theorem kv_find (kt : D → Option κ) (inj : κ → D) (hk : ∀ k, kt (inj k) = some k) (q : κ) : ∀ {kvs : List (D × D)} {ks : List (κ × V)}, RepKV P H kvs (ks.map fun z => (inj z.1, z.2)) →
    match (kvs.find? fun p => decide (kt p.1 = some q)).map (·.2) with
    | some d => ∃ v, valV ks q = some v ∧ Rep P H d v
    | none => valV ks q = none
  | [], [], _ => rfl
  | [], _ :: _, h => by simp [RepKV] at h
  | (k, d) :: kvs, [], h => by simp [RepKV] at h
  | (k, d) :: kvs, (k', v') :: ks, h => by
    simp only [RepKV, List.map_cons] at h
    obtain ⟨v, r, e, h1, h2⟩ := h
    simp only [List.cons.injEq, Prod.mk.injEq] at e
    obtain ⟨⟨e1, e2⟩, e3⟩ := e
    subst e1 e2 e3
    by_cases c : k' = q
    · subst c
      rw [List.find?_cons_of_pos (by simp [hk])]
      exact ⟨v', valV_pos rfl, h1⟩
    · rw [List.find?_cons_of_neg (by simp [hk]; exact c), valV_neg c]
      exact kv_find kt inj hk q h2
theorem kv_any (kt : D → Option κ) (inj : κ → D) (hk : ∀ k, kt (inj k) = some k) (q : κ) : ∀ {kvs : List (D × D)} {ks : List (κ × V)}, RepKV P H kvs (ks.map fun z => (inj z.1, z.2)) →
    (kvs.any fun p => decide (kt p.1 = some q)) = ks.any fun z => decide (z.1 = q)
  | [], [], _ => rfl
  | [], _ :: _, h => by simp [RepKV] at h
  | (k, d) :: kvs, [], h => by simp [RepKV] at h
  | (k, d) :: kvs, (k', v') :: ks, h => by
    simp only [RepKV, List.map_cons] at h
    obtain ⟨v, r, e, h1, h2⟩ := h
    simp only [List.cons.injEq, Prod.mk.injEq] at e
    obtain ⟨⟨e1, e2⟩, e3⟩ := e
    subst e1 e2 e3
    rw [List.any_cons, List.any_cons, kv_any kt inj hk q h2]
    simp only [hk, Option.some.injEq]
theorem kv_repl (kt : D → Option κ) (inj : κ → D) (hk : ∀ k, kt (inj k) = some k) (q : κ) {d0 : D} {v0 : V} (r0 : Rep P H d0 v0) : ∀ {kvs : List (D × D)} {ks : List (κ × V)}, RepKV P H kvs (ks.map fun z => (inj z.1, z.2)) →
    RepKV P H (kvs.map fun p => if kt p.1 = some q then (p.1, d0) else p) ((ks.map fun z => if z.1 = q then (z.1, v0) else z).map fun z => (inj z.1, z.2))
  | [], [], _ => by simp [RepKV]
  | [], _ :: _, h => by simp [RepKV] at h
  | (k, d) :: kvs, [], h => by simp [RepKV] at h
  | (k, d) :: kvs, (k', v') :: ks, h => by
    simp only [RepKV, List.map_cons] at h
    obtain ⟨v, r, e, h1, h2⟩ := h
    simp only [List.cons.injEq, Prod.mk.injEq] at e
    obtain ⟨⟨e1, e2⟩, e3⟩ := e
    subst e1 e2 e3
    have ih := kv_repl kt inj hk q r0 h2
    simp only [List.map_cons, hk, Option.some.injEq]
    by_cases c : k' = q
    · rw [if_pos c, if_pos c]; simp only [RepKV]; exact ⟨v0, _, rfl, r0, ih⟩
    · rw [if_neg c, if_neg c]; simp only [RepKV]; exact ⟨v', _, rfl, h1, ih⟩
theorem RepKV.app : ∀ {kvs kvs' : List (D × D)} {ps qs : List (D × V)}, RepKV P H kvs ps → RepKV P H kvs' qs → RepKV P H (kvs ++ kvs') (ps ++ qs)
  | [], _, _, _, h, g => by simp only [RepKV] at h; subst h; exact g
  | (k, d) :: kvs, _, _, qs, h, g => by
    simp only [RepKV] at h
    obtain ⟨v, r, rfl, h1, h2⟩ := h
    show RepKV P H ((k, d) :: (kvs ++ _)) ((k, v) :: (r ++ qs))
    simp only [RepKV]
    exact ⟨v, r ++ qs, rfl, h1, RepKV.app h2 g⟩
theorem kv_put (kt : D → Option κ) (inj : κ → D) (hk : ∀ k, kt (inj k) = some k) (q : κ) {d0 : D} {v0 : V} (r0 : Rep P H d0 v0) {kvs : List (D × D)} {ks : List (κ × V)} (h : RepKV P H kvs (ks.map fun z => (inj z.1, z.2))) :
    RepKV P H (if (kvs.any fun p => decide (kt p.1 = some q)) = true then kvs.map (fun p => if kt p.1 = some q then (p.1, d0) else p) else kvs ++ [(inj q, d0)]) ((putK ks q v0).map fun z => (inj z.1, z.2)) := by
  unfold putK
  rw [kv_any kt inj hk q h]
  split
  · exact kv_repl kt inj hk q r0 h
  · rw [List.map_append]
    refine h.app ?_
    simp only [List.map_cons, List.map_nil, RepKV]
    exact ⟨v0, [], rfl, r0, rfl⟩
end
theorem RepKV.len {P : Addr → Prop} {H : Hp} : ∀ {kvs : List (D × D)} {ps : List (D × V)}, RepKV P H kvs ps → ps.length = kvs.length
  | [], _, h => by simp only [RepKV] at h; subst h; rfl
  | (k, d) :: kvs, ps, h => by
    simp only [RepKV] at h
    obtain ⟨v, r, rfl, _, h2⟩ := h
    rw [List.length_cons, List.length_cons, RepKV.len h2]
theorem RepL.keys {P : Addr → Prop} {H : Hp} : ∀ {ks : List Key} {vs : List V}, RepL P H (ks.map keyD) vs → vs = ks.map kV
  | [], _, h => by simpa only [List.map_nil, RepL] using h
  | k :: ks, vs, h => by
    simp only [List.map_cons, RepL] at h
    obtain ⟨v, r, rfl, h1, h2⟩ := h
    rw [RepL.keys h2, List.map_cons]
    cases k <;> simp only [keyD, Rep] at h1 <;> rw [h1] <;> rfl
theorem RepB.key {mg : Str → Option Value} {P : Addr → Prop} {H : Hp} {k : Key} {v : V} (h : RepB mg P H (keyD k) v) : v = kV k := by
  cases k <;> simpa only [keyD, RepB, kV] using h
/-- the dict at a place, looked at -/
theorem RepB.dic {mg : Str → Option Value} {P : Addr → Prop} {H : Hp} {t : Bool} {kvs : List (D × D)} {v : V} (h : RepB mg P H (.dic t kvs) v) : ∃ a ps, v = .ref a ∧ HD t H a ps ∧ RepKV P H kvs ps := by simpa only [RepB] using h
theorem dget_ok {mg : Str → Option Value} {P : Addr → Prop} {H : Hp} {t : Bool} {kvs : List (D × D)} {k : D} {o : Option D} {v w : V} (h : RepB mg P H (.dic t kvs) v) (hk : RepB mg P H k w) (e : dget t kvs k = some o) :
    ∃ a ov, v = .ref a ∧ DGet H a w ov ∧ match o with | some d => ∃ u, ov = some u ∧ Rep P H d u | none => ov = none := by
  obtain ⟨a, ps, rfl, hd, hr⟩ := h.dic
  cases t with
  | false =>
    obtain ⟨ks, rd, rfl⟩ := hd
    simp only [dget] at e
    obtain ⟨q, e1, e2⟩ := Option.map_eq_some_iff.mp e
    have := keyA_some e1
    subst this
    have f := kv_find keyA keyD keyA_keyD q hr
    rw [e2] at f
    have ew := hk.key
    refine ⟨a, valV ks q, rfl, .inl ⟨ks, q, rd, ew, rfl⟩, ?_⟩
    cases o with
    | none => exact f
    | some d => exact f
  | true =>
    obtain ⟨ks, rd, rfl⟩ := hd
    simp only [dget] at e
    obtain ⟨q, e1, e2⟩ := Option.map_eq_some_iff.mp e
    have := keyT_some e1
    subst this
    have f := kv_find keyT (fun ks => .tup (ks.map keyD)) (fun ks => keysA_map ks) q hr
    rw [e2] at f
    obtain ⟨b, vs, rfl, hb, hvs⟩ := hk.tup
    have := hvs.keys
    subst this
    refine ⟨a, valV ks q, rfl, .inr ⟨ks, q, b, rd, rfl, hb, rfl⟩, ?_⟩
    cases o with
    | none => exact f
    | some d => exact f

/-! ### subscripts -/
def cpsAt (s : Str) (i : Int) : Option D := (L2.atI s.cps.toList i).map fun c => .str ⟨#[c]⟩
def idxD : D → D → Option D
  | .lst xs, .int i => L2.atI xs i
  | .tup xs, .int i => L2.atI xs i
  | .str s, .int i => if fits s.length then cpsAt s i else none
  | .scr ns, .int i => (L2.atI ns i).map .int
  | .dic t kvs, k => (dget t kvs k).bind id
  | _, _ => none
def plainIx : Expr → Bool
  | .Slice _ _ _ _ => false
  | _ => true
theorem plainIx_ok {b : Expr} (h : plainIx b = true) : PlainIx b := by
  intro o i
  cases b <;> first | rfl | cases h
theorem atI_map {α β : Type} (f : α → β) (xs : List α) (i : Int) : L2.atI (xs.map f) i = (L2.atI xs i).map f := by
  unfold L2.atI
  rw [List.length_map]
  cases ixN xs.length i with
  | none => rfl
  | some j => simp
section
variable {X : Cx} {ks : Ks} {F : Fn} {pos : Pos}
def cIx (f g : SE) : SE := cB idxD f g
theorem evE_idx {a b : Expr} {f g : SE} (hu : X.A.units + 1 < cLine) (hb' : plainIx b = true) (ha : EvP X ks F a f) (hb : EvP X ks F b g) : EvE X ks F (.Subscript a b pos) (cIx f g) := by
  obtain ⟨ta, pa, qa⟩ := ha.ex
  obtain ⟨tb, pb, qb⟩ := hb.ex
  refine ⟨_, pe_or2 (pe_ix ix_seq pa pb (plainIx_ok hb')) (pe_dget hu pa pb (plainIx_ok hb')), fun σ H P ρ Q d fr er ev k => ?_⟩
  obtain ⟨x, e1, ev1⟩ := Option.bind_eq_some_iff.mp ev
  obtain ⟨y, e2, ev2⟩ := Option.bind_eq_some_iff.mp ev1
  have seq : (∀ v w H', Same H H' → RepB X.mg P H' x v → RepB X.mg P H' y w → rIx X.K v w H' Q) → tOp (rIx X.K) ta tb σ H Q := fun z => by
    refine qa σ H P ρ _ x fr er e1 fun v H1 s1 r1 => ?_
    refine qb σ H1 P ρ _ y (fr.same s1) (er.same s1) e2 fun w H2 s2 r2 => ?_
    exact z v w H2 (s1.trans s2) (r1.same s2) r2
  unfold idxD at ev2
  split at ev2
  · refine .inl (seq fun v w H' s r1 r2 => ?_)
    obtain ⟨a, vs, rfl, h1, h2⟩ := r1.lst
    obtain ⟨u, e3, r3⟩ := h2.atI ev2
    simp only [RepB] at r2
    exact .inl ⟨a, vs, _, u, rfl, r2, SqL.of h1, e3, k u H' s r3⟩
  · refine .inl (seq fun v w H' s r1 r2 => ?_)
    obtain ⟨a, vs, rfl, h1, h2⟩ := r1.tup
    obtain ⟨u, e3, r3⟩ := h2.atI ev2
    simp only [RepB] at r2
    exact .inr (.inl ⟨a, vs, _, u, rfl, r2, SqT.of h1, e3, k u H' s r3⟩)
  · refine .inl (seq fun v w H' s r1 r2 => ?_)
    split at ev2
    · rename_i c
      obtain ⟨u, e3, e4⟩ := Option.map_eq_some_iff.mp ev2
      subst e4
      simp only [RepB] at r1 r2
      exact .inr (.inr ⟨_, _, u, r1, r2, of_decide_eq_true c, e3, k _ H' s (by simp only [Rep])⟩)
    · cases ev2
  · refine .inl (seq fun v w H' s r1 r2 => ?_)
    obtain ⟨u, e3, e4⟩ := Option.map_eq_some_iff.mp ev2
    subst e4
    simp only [RepB, Rep] at r1 r2
    obtain ⟨a, o, rfl, h1⟩ := r1
    refine .inl ⟨a, _, _, .int u, rfl, r2, .inl (.inr ⟨o, h1⟩), ?_, k _ H' s (by simp only [Rep])⟩
    rw [atI_map, e3]; rfl
  · rename_i t kvs
    obtain ⟨o, e3, e4⟩ := Option.bind_eq_some_iff.mp ev2
    simp only [id] at e4
    subst e4
    refine .inr (qa σ H P ρ _ _ fr er e1 fun v H1 s1 r1 => ?_)
    refine qb σ H1 P ρ _ y (fr.same s1) (er.same s1) e2 fun w H2 s2 r2 => ?_
    obtain ⟨a, ov, rfl, g, u, rfl, ru⟩ := dget_ok (r1.same s2) r2 e3
    exact ⟨a, u, rfl, g, k u H2 (s1.trans s2) ru⟩
  · cases ev2

/-! ### slices without a step -/
def cutL {α : Type} (xs : List α) (lo hi : Option Int) : List α := (xs.drop (HT.sIx xs.length 0 lo)).take (HT.sIx xs.length xs.length hi - HT.sIx xs.length 0 lo)
def slcD (lo hi : Option Int) : D → Option D
  | .lst xs => some (.lst (cutL xs lo hi))
  | .tup xs => some (.tup (cutL xs lo hi))
  | .str s => if fits s.length then some (.str (cutS s lo hi)) else none
  | _ => none
theorem RepL.cut {P : Addr → Prop} {H : Hp} {ds : List D} {vs : List V} (h : RepL P H ds vs) (lo hi : Option Int) : RepL P H (cutL ds lo hi) (cutV vs lo hi) := by
  unfold cutL cutV
  rw [h.len]
  exact (h.drop _).take _
abbrev SO := Fn → RE.Env → Option (Option Int)
def intD : D → Option Int
  | .int i => some i
  | _ => none
def cNone : SO := fun _ _ => some none
def cPart (f : SE) : SO := fun F ρ => (f F ρ).bind fun d => (intD d).map some
structure EvO (X : Cx) (ks : Ks) (F : Fn) (e : Option Expr) (f : SO) : Prop where
  ex : ∃ t : TO, PO X e t ∧ ∀ σ H (P : Addr → Prop) (ρ : RE.Env) (Q : Option Int → Hp → Prop) (o : Option Int), Fre P H → ER X.mg P ks H σ ρ → f F ρ = some o → (∀ H', Same H H' → Q o H') → t σ H Q
theorem evO_none : EvO X ks F none cNone := ⟨tNoPart, po_none, fun σ H P ρ Q o fr er ev k => by cases ev; exact k H (Same.refl H)⟩
theorem evO_some {e : Expr} {f : SE} (h : EvP X ks F e f) : EvO X ks F (some e) (cPart f) := by
  obtain ⟨t, p, q⟩ := h.ex
  refine ⟨tPart t, po_some p, fun σ H P ρ Q o fr er ev k => ?_⟩
  obtain ⟨d, e1, ev1⟩ := Option.bind_eq_some_iff.mp ev
  obtain ⟨i, e2, ev2⟩ := Option.map_eq_some_iff.mp ev1
  subst ev2
  refine q σ H P ρ _ d fr er e1 fun v H1 s1 r1 => ?_
  cases d <;> simp only [intD] at e2 <;> first | (cases e2; done) | skip
  cases e2
  simp only [RepB] at r1
  exact ⟨_, r1, k H1 s1⟩
def cSl (f : SE) (lo hi : SO) : SE := fun F ρ => (f F ρ).bind fun d => (lo F ρ).bind fun l => (hi F ρ).bind fun h => slcD l h d
theorem evN_slice {e : Expr} {lo hi : Option Expr} {f : SE} {g h : SO} {p2 : Pos} (he : EvP X ks F e f) (hl : EvO X ks F lo g) (hh : EvO X ks F hi h) : EvN X ks F (.Subscript e (.Slice lo hi none p2) pos) (cSl f g h) := by
  obtain ⟨t, p, q⟩ := he.ex
  obtain ⟨tl, pl, ql⟩ := hl.ex
  obtain ⟨th, ph, qh⟩ := hh.ex
  refine ⟨_, pe_slice (sl_list.or (sl_tupA.or sl_str)) p pl ph, fun σ H P ρ Q d fr er ev k => ?_⟩
  obtain ⟨x, e1, ev1⟩ := Option.bind_eq_some_iff.mp ev
  obtain ⟨l, e2, ev2⟩ := Option.bind_eq_some_iff.mp ev1
  obtain ⟨u, e3, ev3⟩ := Option.bind_eq_some_iff.mp ev2
  refine q σ H P ρ _ x fr er e1 fun v H1 s1 r1 => ?_
  refine ql σ H1 P ρ _ l (fr.same s1) (er.same s1) e2 fun H2 s2 => ?_
  refine qh σ H2 P ρ _ u ((fr.same s1).same s2) ((er.same s1).same s2) e3 fun H3 s3 => ?_
  have s := (s1.trans s2).trans s3
  have r := (r1.same s2).same s3
  cases x <;> simp only [slcD] at ev3 <;> first | (cases ev3; done) | skip
  · split at ev3
    · rename_i c
      cases ev3
      simp only [RepB] at r
      exact .inr (.inr ⟨_, r, of_decide_eq_true c, k _ H3 s ⟨by simp only [Rep], trivial⟩⟩)
    · cases ev3
  · cases ev3
    obtain ⟨a, vs, rfl, h1, h2⟩ := r.tup
    refine .inr (.inl ⟨a, vs, rfl, SqT.of h1, fun c => ?_, fun c p hp => ?_⟩)
    · refine k _ H3 s ⟨?_, trivial⟩
      have h3 := h2.cut l u
      have : cutV vs l u = vs := by unfold cutV; rw [c.1, c.2]; simp
      rw [this] at h3
      simp only [Rep]
      exact ⟨a, vs, rfl, h1, h3⟩
    · exact k _ _ (s.trans (same_new hp)) ⟨rep_newT hp (h2.cut l u), trivial⟩
  · cases ev3
    obtain ⟨a, vs, rfl, h1, h2⟩ := r.lst
    refine .inl ⟨a, vs, rfl, SqL.of h1, fun p hp => ?_⟩
    exact k _ _ (s.trans (same_new hp)) ⟨rep_newL (((fr.same s1).same s2).same s3) hp (h2.cut l u), topNew_ref (s.free hp)⟩
end
end RE
/-! RE6: built-ins, in. -/
namespace RE
open PySem PySem.Spec PyProof.Rows L2

/-! ### one or two arguments -/
theorem repA1 {mg : Str → Option Value} {P : Addr → Prop} {H : Hp} {x : D} {vs : List V} (h : RepA mg P H [.B, .B, .B, .B] [x] vs) : ∃ v, vs = [v] ∧ RepB mg P H x v := by
  obtain ⟨v, r, rfl, h1, h2⟩ := h
  rw [show r = [] from h2]
  exact ⟨v, rfl, h1⟩
theorem repA2 {mg : Str → Option Value} {P : Addr → Prop} {H : Hp} {x y : D} {vs : List V} (h : RepA mg P H [.B, .B, .B, .B] [x, y] vs) : ∃ v w, vs = [v, w] ∧ RepB mg P H x v ∧ RepB mg P H y w := by
  obtain ⟨v, r, rfl, h1, w, r', rfl, h2, h3⟩ := h
  rw [show r' = [] from h3]
  exact ⟨v, w, rfl, h1, h2⟩
def op1 (op : D → Option D) : List D → Option D
  | [x] => op x
  | _ => none
def op2 (op : D → D → Option D) : List D → Option D
  | [x, y] => op x y
  | _ => none
theorem rc1 {mg : Str → Option Value} {r : List V → Hp → VK → Prop} {op : D → Option D}
    (h : ∀ (P : Addr → Prop) (H : Hp) (x d : D) (v : V) (Q : VK), Fre P H → RepB mg P H x v → op x = some d → (∀ z H', Same H H' → Rep P H' d z → TopNew H d z → Q z H') → r [v] H Q) : RcOk mg r (op1 op) := by
  intro P H xs d vs Q fr ra e k
  match xs, e with
  | [x], e =>
    obtain ⟨v, rfl, rb⟩ := repA1 ra
    exact h P H x d v Q fr rb e k
theorem rc2 {mg : Str → Option Value} {r : List V → Hp → VK → Prop} {op : D → D → Option D}
    (h : ∀ (P : Addr → Prop) (H : Hp) (x y d : D) (v w : V) (Q : VK), Fre P H → RepB mg P H x v → RepB mg P H y w → op x y = some d → (∀ z H', Same H H' → Rep P H' d z → TopNew H d z → Q z H') → r [v, w] H Q) : RcOk mg r (op2 op) := by
  intro P H xs d vs Q fr ra e k
  match xs, e with
  | [x, y], e =>
    obtain ⟨v, w, rfl, rb, rb'⟩ := repA2 ra
    exact h P H x y d v w Q fr rb rb' e k

/-! ### len -/
def lenD : D → Option D
  | .str s => if fits s.length then some (.int s.length) else none
  | .lst xs => some (.int xs.length)
  | .tup xs => some (.int xs.length)
  | .scr ns => some (.int ns.length)
  | .dic _ kvs => some (.int kvs.length)
  | _ => none
theorem call_lenR {X : Cx} : CallR X (.builtin "len") (fun xs H Q => ∃ a n, xs = [V.ref a] ∧ ((∃ kvs : List (Key × V), Rd H a (.dK kvs) ∧ n = kvs.length) ∨ ∃ kvs : List (List Key × V), Rd H a (.dT kvs) ∧ n = kvs.length) ∧ Q (.int (n : Nat)) H) := by
  intro pins s σ H xs us Q I r h
  obtain ⟨a, n, rfl, h, q⟩ := h
  obtain ⟨u, rfl, rx⟩ := vals1 r
  obtain rfl : u = .ref a := rx
  rcases h with ⟨kvs, e, rfl⟩ | ⟨kvs, e, rfl⟩
  · exact d_len I e fun t s' I' => ⟨.int ((kvs.length : Nat) : Int), H, I', ⟨t, rfl⟩, q⟩
  · obtain ⟨z, hd, ys, rel, dd⟩ := dt_rd I.hok e
    have hl : kvs.length = ys.length := Paired.length rel
    refine call_len_dictH hd dd (by rw [sizeLine_eq] at z; omega) ?_
    rw [← hl]
    exact ⟨.int ((kvs.length : Nat) : Int), H, I.tok _, ⟨_, rfl⟩, q⟩
abbrev rLenD (K : PySem.W.Frag) : List V → Hp → VK → Prop := fun xs H Q => (∃ x n, xs = [x] ∧ LenV K x H n ∧ Q (.int n) H) ∨ (∃ a n, xs = [V.ref a] ∧ ((∃ kvs : List (Key × V), Rd H a (.dK kvs) ∧ n = kvs.length) ∨ ∃ kvs : List (List Key × V), Rd H a (.dT kvs) ∧ n = kvs.length) ∧ Q (.int (n : Nat)) H)
theorem call_lenD2 {X : Cx} : CallR X (.builtin "len") (rLenD X.K) := call_len.or call_lenR
theorem lenD_ok {mg K} : RcOk mg (rLenD K) (op1 lenD) := rc1 fun P H x d v Q fr rx e k => by
  cases x <;> simp only [lenD] at e <;> first | (cases e; done) | skip
  · split at e
    · rename_i c
      cases e
      simp only [RepB] at rx
      exact .inl ⟨v, _, rfl, by subst rx; exact ⟨of_decide_eq_true c, rfl⟩, k _ H (Same.refl H) (by simp only [Rep]) trivial⟩
    · cases e
  · cases e
    obtain ⟨a, vs, rfl, h1, h2⟩ := rx.tup
    exact .inl ⟨_, _, rfl, .inr ⟨vs, SqT.of h1, h2.len.symm⟩, k _ H (Same.refl H) (by simp only [Rep]) trivial⟩
  · cases e
    obtain ⟨a, vs, rfl, h1, h2⟩ := rx.lst
    exact .inl ⟨_, _, rfl, .inl ⟨vs, SqL.of h1, h2.len.symm⟩, k _ H (Same.refl H) (by simp only [Rep]) trivial⟩
  · cases e
    obtain ⟨a, ps, rfl, h1, h2⟩ := rx.dic
    have hl := h2.len
    rename_i t kvs
    cases t with
    | false =>
      obtain ⟨ks, rd, rfl⟩ := h1
      exact .inr ⟨a, kvs.length, rfl, .inl ⟨ks, rd, by rw [← hl, List.length_map]⟩, k _ H (Same.refl H) (by simp only [Rep]) trivial⟩
    | true =>
      obtain ⟨ks, rd, rfl⟩ := h1
      exact .inr ⟨a, kvs.length, rfl, .inr ⟨ks, rd, by rw [← hl, List.length_map]⟩, k _ H (Same.refl H) (by simp only [Rep]) trivial⟩
  · cases e
    simp only [RepB, Rep] at rx
    obtain ⟨a, o, rfl, h1⟩ := rx
    exact .inl ⟨_, _, rfl, .inl ⟨_, .inl (.inr ⟨o, h1⟩), by rw [List.length_map]⟩, k _ H (Same.refl H) (by simp only [Rep]) trivial⟩

/-! ### abs, min, max of two numbers; int, bool -/
def absD : D → Option D
  | .int i => some (.int (if i < 0 then -i else i))
  | _ => none
theorem absD_ok {mg} : RcOk mg (fun xs H Q => ∃ i, xs = [.int i] ∧ Q (.int (if i < 0 then -i else i)) H) (op1 absD) := rc1 fun P H x d v Q fr rx e k => by
  cases x <;> simp only [absD] at e <;> first | (cases e; done) | skip
  cases e
  simp only [RepB] at rx
  subst rx
  exact ⟨_, rfl, k _ H (Same.refl H) (by simp only [Rep]) trivial⟩
def max2D : D → D → Option D
  | .int i, .int j => some (.int (if j > i then j else i))
  | _, _ => none
def min2D : D → D → Option D
  | .int i, .int j => some (.int (if j < i then j else i))
  | _, _ => none
theorem max2D_ok {mg} : RcOk mg (fun xs H Q => ∃ i j, xs = [.int i, .int j] ∧ Q (.int (if j > i then j else i)) H) (op2 max2D) := rc2 fun P H x y d v w Q fr rx ry e k => by
  cases x <;> cases y <;> simp only [max2D] at e <;> first | (cases e; done) | skip
  cases e
  simp only [RepB] at rx ry
  subst rx ry
  exact ⟨_, _, rfl, k _ H (Same.refl H) (by simp only [Rep]) trivial⟩
theorem min2D_ok {mg} : RcOk mg (fun xs H Q => ∃ i j, xs = [.int i, .int j] ∧ Q (.int (if j < i then j else i)) H) (op2 min2D) := rc2 fun P H x y d v w Q fr rx ry e k => by
  cases x <;> cases y <;> simp only [min2D] at e <;> first | (cases e; done) | skip
  cases e
  simp only [RepB] at rx ry
  subst rx ry
  exact ⟨_, _, rfl, k _ H (Same.refl H) (by simp only [Rep]) trivial⟩
def int1D : D → Option D
  | .int i => some (.int i)
  | .bl b => some (.int (if b then 1 else 0))
  | _ => none
def bool1D : D → Option D
  | .int i => some (.bl (i != 0))
  | .bl b => some (.bl b)
  | _ => none
theorem int1D_ok {mg} : RcOk mg (fun xs H Q => (∃ i, xs = [.int i] ∧ Q (.int i) H) ∨ ∃ k, xs = [.bl k] ∧ Q (.int (if k then 1 else 0)) H) (op1 int1D) := rc1 fun P H x d v Q fr rx e k => by
  cases x <;> simp only [int1D] at e <;> first | (cases e; done) | skip
  · cases e
    simp only [RepB] at rx
    subst rx
    exact .inr ⟨_, rfl, k _ H (Same.refl H) (by simp only [Rep]) trivial⟩
  · cases e
    simp only [RepB] at rx
    subst rx
    exact .inl ⟨_, rfl, k _ H (Same.refl H) (by simp only [Rep]) trivial⟩
theorem bool1D_ok {mg} : RcOk mg (fun xs H Q => (∃ i, xs = [.int i] ∧ Q (.bl (i != 0)) H) ∨ ∃ k, xs = [.bl k] ∧ Q (.bl k) H) (op1 bool1D) := rc1 fun P H x d v Q fr rx e k => by
  cases x <;> simp only [bool1D] at e <;> first | (cases e; done) | skip
  · cases e
    simp only [RepB] at rx
    subst rx
    exact .inr ⟨_, rfl, k _ H (Same.refl H) (by simp only [Rep]) trivial⟩
  · cases e
    simp only [RepB] at rx
    subst rx
    exact .inl ⟨_, rfl, k _ H (Same.refl H) (by simp only [Rep]) trivial⟩

/-! ### list, tuple -/
def listD : D → Option D
  | .lst xs => some (.lst xs)
  | .tup xs => some (.lst xs)
  | _ => none
def tupleD : D → Option D
  | .lst xs => some (.tup xs)
  | .tup xs => some (.tup xs)
  | _ => none
theorem listD_ok {mg K} : RcOk mg (fun xs H Q => ∃ p ys, xs = [.ref p] ∧ (SqL K H p ys ∨ SqT K H p ys) ∧ ∀ l, H l = none → Q (.ref l) (upd H l (.lst ys))) (op1 listD) := rc1 fun P H x d v Q fr rx e k => by
  cases x <;> simp only [listD] at e <;> first | (cases e; done) | skip
  · cases e
    obtain ⟨a, vs, rfl, h1, h2⟩ := rx.tup
    exact ⟨a, vs, rfl, .inr (SqT.of h1), fun p hp => k _ _ (same_new hp) (rep_newL fr hp h2) (topNew_ref hp)⟩
  · cases e
    obtain ⟨a, vs, rfl, h1, h2⟩ := rx.lst
    exact ⟨a, vs, rfl, .inl (SqL.of h1), fun p hp => k _ _ (same_new hp) (rep_newL fr hp h2) (topNew_ref hp)⟩
theorem tupleD_ok {mg K} : RcOk mg (fun xs H Q => ∃ p ys, xs = [.ref p] ∧ ((SqL K H p ys ∧ ∀ l, H l = none → Q (.ref l) (upd H l (.tup ys))) ∨ (SqT K H p ys ∧ Q (.ref p) H))) (op1 tupleD) := rc1 fun P H x d v Q fr rx e k => by
  cases x <;> simp only [tupleD] at e <;> first | (cases e; done) | skip
  · cases e
    obtain ⟨a, vs, rfl, h1, h2⟩ := rx.tup
    exact ⟨a, vs, rfl, .inr ⟨SqT.of h1, k _ H (Same.refl H) (by simp only [Rep]; exact ⟨a, vs, rfl, h1, h2⟩) trivial⟩⟩
  · cases e
    obtain ⟨a, vs, rfl, h1, h2⟩ := rx.lst
    exact ⟨a, vs, rfl, .inl ⟨SqL.of h1, fun p hp => k _ _ (same_new hp) (rep_newT hp h2) trivial⟩⟩

/-! ### any, all, sum -/
def blsD : List D → Option (List Bool)
  | [] => some []
  | .bl b :: xs => (blsD xs).map (b :: ·)
  | _ :: _ => none
def intsD : List D → Option (List Int)
  | [] => some []
  | .int b :: xs => (intsD xs).map (b :: ·)
  | _ :: _ => none
def anyD : D → Option D
  | .lst xs => (blsD xs).map fun bs => .bl (bs.any id)
  | _ => none
def allD : D → Option D
  | .lst xs => (blsD xs).map fun bs => .bl (bs.all id)
  | _ => none
def sumD : D → Option D
  | .lst xs => (intsD xs).map fun ns => .int ns.sum
  | _ => none
theorem RepL.bls {P : Addr → Prop} {H : Hp} : ∀ {ds : List D} {bs : List Bool} {vs : List V}, blsD ds = some bs → RepL P H ds vs → vs = bs.map V.bl
  | [], bs, vs, e, h => by simp only [blsD] at e; cases e; simp only [RepL] at h; subst h; rfl
  | d :: ds, bs, vs, e, h => by
    cases d <;> simp only [blsD] at e <;> first | (cases e; done) | skip
    obtain ⟨bs', e1, rfl⟩ := Option.map_eq_some_iff.mp e
    simp only [RepL, Rep] at h
    obtain ⟨v, r, rfl, rfl, h2⟩ := h
    rw [RepL.bls e1 h2]; rfl
theorem RepL.ints {P : Addr → Prop} {H : Hp} : ∀ {ds : List D} {bs : List Int} {vs : List V}, intsD ds = some bs → RepL P H ds vs → vs = bs.map V.int
  | [], bs, vs, e, h => by simp only [intsD] at e; cases e; simp only [RepL] at h; subst h; rfl
  | d :: ds, bs, vs, e, h => by
    cases d <;> simp only [intsD] at e <;> first | (cases e; done) | skip
    obtain ⟨bs', e1, rfl⟩ := Option.map_eq_some_iff.mp e
    simp only [RepL, Rep] at h
    obtain ⟨v, r, rfl, rfl, h2⟩ := h
    rw [RepL.ints e1 h2]; rfl
theorem anyD_ok {mg K} : RcOk mg (rAny K) (op1 anyD) := rc1 fun P H x d v Q fr rx e k => by
  cases x <;> simp only [anyD] at e <;> first | (cases e; done) | skip
  obtain ⟨bs, e1, rfl⟩ := Option.map_eq_some_iff.mp e
  obtain ⟨a, vs, rfl, h1, h2⟩ := rx.lst
  have := h2.bls e1
  subst this
  exact ⟨a, bs, rfl, SqL.of h1, k _ H (Same.refl H) (by simp only [Rep]) trivial⟩
theorem allD_ok {mg K} : RcOk mg (rAll K) (op1 allD) := rc1 fun P H x d v Q fr rx e k => by
  cases x <;> simp only [allD] at e <;> first | (cases e; done) | skip
  obtain ⟨bs, e1, rfl⟩ := Option.map_eq_some_iff.mp e
  obtain ⟨a, vs, rfl, h1, h2⟩ := rx.lst
  have := h2.bls e1
  subst this
  exact ⟨a, bs, rfl, SqL.of h1, k _ H (Same.refl H) (by simp only [Rep]) trivial⟩
theorem sumD_ok {mg K} : RcOk mg (rSum K) (op1 sumD) := rc1 fun P H x d v Q fr rx e k => by
  cases x <;> simp only [sumD] at e <;> first | (cases e; done) | skip
  obtain ⟨bs, e1, rfl⟩ := Option.map_eq_some_iff.mp e
  obtain ⟨a, vs, rfl, h1, h2⟩ := rx.lst
  have := h2.ints e1
  subst this
  exact ⟨a, bs, rfl, SqL.of h1, k _ H (Same.refl H) (by simp only [Rep]) trivial⟩

/-! ### in -/
def memD (x : D) (xs : List D) : Bool := xs.any fun y => eqv y x
def inB : D → D → Option Bool
  | .str a, .str b => match a.cps.toList with
    | [c] => some (decide (c ∈ b.cps.toList))
    | _ => none
  | x, .lst xs => if pd 64 x && xs.all (pd 64) then some (memD x xs) else none
  | x, .tup xs => if pd 64 x && xs.all (pd 64) then some (memD x xs) else none
  | x, .dic t kvs => (dget t kvs x).map fun o => o.isSome
  | _, _ => none
def inD (x y : D) : Option D := (inB x y).map .bl
def notInD (x y : D) : Option D := (inB x y).map fun b => .bl (!b)
theorem any_toP (x : D) : ∀ xs : List D, ((toPs xs).any fun y => PyData.eqv y (toP x)) = memD x xs := by
  intro xs
  rw [toPs_map, List.any_map]
  rfl
theorem one_cps {a : Str} {c : Nat} (h : a.cps.toList = [c]) : a = ⟨#[c]⟩ := by
  cases a with
  | mk cs => simp only at h; rw [← Array.toList_inj.mp (show cs.toList = #[c].toList from h)]
section
variable {X : Cx} {ks : Ks} {F : Fn} {pos : Pos}
/-- by data: in a list, a tuple -/
def rInP (K : PySem.W.Frag) (neg : Bool) : R2 := fun x y H Q => ∃ (d : PyData) (ds : List PyData), Dp K H x d ∧ (Dp K H y (.list ds) ∨ Dp K H y (.tuple ds)) ∧ d.plain = true ∧ PyData.plainAll ds = true ∧ d.depth ≤ 64 ∧ Q (.bl (if neg then !(ds.any fun z => PyData.eqv z d) else ds.any fun z => PyData.eqv z d)) H
theorem room_in1 {a b : Nat} (hu : X.A.units + 65 < cLine) (h : b ≤ 64) : X.A.units + 1 + min a b < cLine := by
  have : min a b ≤ b := Nat.min_le_right _ _
  omega
theorem op_inP (hu : X.A.units + 65 < cLine) : OpR X (compareOp .In) (rInP X.K false) := by
  intro pins s σ H x y v u Q I rx ry h
  obtain ⟨d, ds, hd, he, p1, p2, dd, q⟩ := h
  obtain ⟨as, r1⟩ := Dp.reads I d x v hd rx
  rcases he with he | he
  · obtain ⟨bs, r2⟩ := Dp.reads I _ y u he ry
    exact PySem.SeqAt.in_list_data r2 r1 p2 p1 (room_in1 hu dd) ⟨.bl _, H, I, rfl, q⟩
  · obtain ⟨bs, r2⟩ := Dp.reads I _ y u he ry
    exact PySem.SeqAt.in_tuple_data r2 r1 p2 p1 (room_in1 hu dd) ⟨.bl _, H, I, rfl, q⟩
theorem op_notInP (hu : X.A.units + 65 < cLine) : OpR X (compareOp .NotIn) (rInP X.K true) := by
  intro pins s σ H x y v u Q I rx ry h
  obtain ⟨d, ds, hd, he, p1, p2, dd, q⟩ := h
  obtain ⟨as, r1⟩ := Dp.reads I d x v hd rx
  rcases he with he | he
  · obtain ⟨bs, r2⟩ := Dp.reads I _ y u he ry
    exact PySem.SeqAt.notIn_list_data r2 r1 p2 p1 (room_in1 hu dd) ⟨.bl _, H, I, rfl, q⟩
  · obtain ⟨bs, r2⟩ := Dp.reads I _ y u he ry
    exact PySem.SeqAt.notIn_tuple_data r2 r1 p2 p1 (room_in1 hu dd) ⟨.bl _, H, I, rfl, q⟩
abbrev rInS' (neg : Bool) : R2 := fun x y H Q => ∃ (c : Nat) (z : Str), x = .str ⟨#[c]⟩ ∧ y = .str z ∧ Q (.bl (if neg then !decide (c ∈ z.cps.toList) else decide (c ∈ z.cps.toList))) H
theorem dps_of {K : PySem.W.Frag} {P : Addr → Prop} {H : Hp} {ds : List D} {vs : List V} (h : RepL P H ds vs) (hp : ds.all (pd 64) = true) : DpAll K H vs (toPs ds) ∧ PyData.plainAll (toPs ds) = true :=
  ⟨RepL.dp ds vs h ⟨64, hp⟩, (pds_ok (pd_ok 64) hp).1⟩
/-- the two parts of in: by sign or data; by a dict -/
theorem in_seq {neg : Bool} {x y : D} {b : Bool} {P : Addr → Prop} {H : Hp} {v w : V} {Q : VK} (hnd : ∀ t kvs, y ≠ .dic t kvs) (e : inB x y = some b) (r1 : RepB X.mg P H x v) (r2 : RepB X.mg P H y w)
    (k : ∀ z, z = V.bl (if neg then !b else b) → Q z H) : rInS' neg v w H Q ∨ rInP X.K neg v w H Q := by
  unfold inB at e
  split at e
  · split at e
    · rename_i c hc
      cases e
      simp only [RepB] at r1 r2
      subst r1 r2
      exact .inl ⟨c, _, by rw [one_cps hc], rfl, k _ rfl⟩
    · cases e
  · split at e
    · rename_i c
      cases e
      rw [Bool.and_eq_true] at c
      obtain ⟨a, vs, rfl, h1, h2⟩ := r2.lst
      have q := dps_of (K := X.K) h2 c.2
      refine .inr ⟨toP x, _, r1.dp c.1, .inl (.lst (SqL.of h1) q.1), (pd_ok _ _ c.1).1, q.2, (pd_ok _ _ c.1).2, ?_⟩
      rw [any_toP]
      exact k _ rfl
    · cases e
  · split at e
    · rename_i c
      cases e
      rw [Bool.and_eq_true] at c
      obtain ⟨a, vs, rfl, h1, h2⟩ := r2.tup
      have q := dps_of (K := X.K) h2 c.2
      refine .inr ⟨toP x, _, r1.dp c.1, .inr (.tup (SqT.of h1) q.1), (pd_ok _ _ c.1).1, q.2, (pd_ok _ _ c.1).2, ?_⟩
      rw [any_toP]
      exact k _ rfl
    · cases e
  · rename_i t kvs
    exact absurd rfl (hnd t kvs)
  · cases e
def isDic : D → Bool
  | .dic _ _ => true
  | _ => false
theorem isDic_ne {y : D} (h : isDic y = false) : ∀ t kvs, y ≠ .dic t kvs := fun t kvs e => by subst e; cases h
theorem isDic_eq {y : D} (h : isDic y = true) : ∃ t kvs, y = .dic t kvs := by
  cases y <;> first | exact ⟨_, _, rfl⟩ | cases h
theorem evN_in {a b : Expr} {f g : SE} (hu : X.A.units + 65 < cLine) (hm : behindInMarks .In b = false) (ha : EvP X ks F a f) (hb : EvP X ks F b g) : EvN X ks F (.Compare a [.In] [b] pos) (cB inD f g) := by
  obtain ⟨ta, pa, qa⟩ := ha.ex
  obtain ⟨tb, pb, qb⟩ := hb.ex
  refine ⟨_, pe_or2 (pe_cmpR (op_in_sign.or (op_inP hu)) pa pb hm) (pe_cmp (pc_din (by omega) pa pb) hm), fun σ H P ρ Q d fr er ev k => ?_⟩
  obtain ⟨x, e1, ev1⟩ := Option.bind_eq_some_iff.mp ev
  obtain ⟨y, e2, ev2⟩ := Option.bind_eq_some_iff.mp ev1
  obtain ⟨c, e3, rfl⟩ := Option.map_eq_some_iff.mp ev2
  cases hy : isDic y with
  | false =>
    refine .inl (qa σ H P ρ _ x fr er e1 fun v H1 s1 r1 => ?_)
    refine qb σ H1 P ρ _ y (fr.same s1) (er.same s1) e2 fun w H2 s2 r2 => ?_
    exact in_seq (X := X) (neg := false) (isDic_ne hy) e3 (r1.same s2) r2 fun z hz => k z H2 (s1.trans s2) ⟨by subst hz; simp [Rep], trivial⟩
  | true =>
    obtain ⟨t, kvs, rfl⟩ := isDic_eq hy
    simp only [inB] at e3
    obtain ⟨o, e4, rfl⟩ := Option.map_eq_some_iff.mp e3
    refine .inr (qa σ H P ρ _ x fr er e1 fun v H1 s1 r1 => ?_)
    refine qb σ H1 P ρ _ _ (fr.same s1) (er.same s1) e2 fun w H2 s2 r2 => ?_
    obtain ⟨q, ov, rfl, g, hov⟩ := dget_ok r2 (r1.same s2) e4
    refine ⟨q, ov, rfl, g, k _ H2 (s1.trans s2) ⟨?_, trivial⟩⟩
    cases o with
    | none => rw [show ov = none from hov]; simp only [Rep]; rfl
    | some d => obtain ⟨u, rfl, _⟩ := hov; simp only [Rep]; rfl
theorem evT_in {a b : Expr} {f g : SE} (hu : X.A.units + 65 < cLine) (hm : behindInMarks .In b = false) (ha : EvP X ks F a f) (hb : EvP X ks F b g) : EvT X ks F (.Compare a [.In] [b] pos) (cBT inD f g) := by
  obtain ⟨ta, pa, qa⟩ := ha.ex
  obtain ⟨tb, pb, qb⟩ := hb.ex
  refine ⟨fun σ H Q => tTest (tOp (fun x y H Q => _ ∨ _) ta tb) σ H Q ∨ tB (tDIn ta tb) σ H Q, ⟨fun pins s σ H Q I q => q.elim ((pt_cmpR (op_in_sign.or (op_inP hu)) pa pb hm).run pins s σ H Q I) ((pt_cmp (pc_din (by omega) pa pb) hm).run pins s σ H Q I)⟩, fun σ H P ρ Q c' fr er ev k => ?_⟩
  obtain ⟨d, e0, ev0⟩ := Option.bind_eq_some_iff.mp ev
  obtain ⟨x, e1, ev1⟩ := Option.bind_eq_some_iff.mp e0
  obtain ⟨y, e2, ev2⟩ := Option.bind_eq_some_iff.mp ev1
  obtain ⟨c, e3, rfl⟩ := Option.map_eq_some_iff.mp ev2
  cases ev0
  cases hy : isDic y with
  | false =>
    refine .inl (qa σ H P ρ _ x fr er e1 fun v H1 s1 r1 => ?_)
    refine qb σ H1 P ρ _ y (fr.same s1) (er.same s1) e2 fun w H2 s2 r2 => ?_
    exact in_seq (X := X) (neg := false) (Q := fun x H' => ∃ k, x = V.bl k ∧ Q k H') (isDic_ne hy) e3 (r1.same s2) r2 fun z hz => ⟨c', by subst hz; rfl, k H2 (s1.trans s2)⟩
  | true =>
    obtain ⟨t, kvs, rfl⟩ := isDic_eq hy
    simp only [inB] at e3
    obtain ⟨o, e4, rfl⟩ := Option.map_eq_some_iff.mp e3
    refine .inr (qa σ H P ρ _ x fr er e1 fun v H1 s1 r1 => ?_)
    refine qb σ H1 P ρ _ _ (fr.same s1) (er.same s1) e2 fun w H2 s2 r2 => ?_
    obtain ⟨q, ov, rfl, g, hov⟩ := dget_ok r2 (r1.same s2) e4
    refine ⟨q, ov, rfl, g, o.isSome, ?_, k H2 (s1.trans s2)⟩
    cases o with
    | none => rw [show ov = none from hov]; rfl
    | some d => obtain ⟨u, rfl, _⟩ := hov; rfl
theorem evN_notIn {a b : Expr} {f g : SE} (hu : X.A.units + 65 < cLine) (hm : behindInMarks .NotIn b = false) (ha : EvP X ks F a f) (hb : EvP X ks F b g) : EvN X ks F (.Compare a [.NotIn] [b] pos) (cB notInD f g) := by
  obtain ⟨ta, pa, qa⟩ := ha.ex
  obtain ⟨tb, pb, qb⟩ := hb.ex
  refine ⟨_, pe_or2 (pe_cmpR (op_notIn_sign.or (op_notInP hu)) pa pb hm) (pe_cmp (pc_dnotin (by omega) pa pb) hm), fun σ H P ρ Q d fr er ev k => ?_⟩
  obtain ⟨x, e1, ev1⟩ := Option.bind_eq_some_iff.mp ev
  obtain ⟨y, e2, ev2⟩ := Option.bind_eq_some_iff.mp ev1
  obtain ⟨c, e3, rfl⟩ := Option.map_eq_some_iff.mp ev2
  cases hy : isDic y with
  | false =>
    refine .inl (qa σ H P ρ _ x fr er e1 fun v H1 s1 r1 => ?_)
    refine qb σ H1 P ρ _ y (fr.same s1) (er.same s1) e2 fun w H2 s2 r2 => ?_
    exact in_seq (X := X) (neg := true) (isDic_ne hy) e3 (r1.same s2) r2 fun z hz => k z H2 (s1.trans s2) ⟨by subst hz; simp [Rep], trivial⟩
  | true =>
    obtain ⟨t, kvs, rfl⟩ := isDic_eq hy
    simp only [inB] at e3
    obtain ⟨o, e4, rfl⟩ := Option.map_eq_some_iff.mp e3
    refine .inr (qa σ H P ρ _ x fr er e1 fun v H1 s1 r1 => ?_)
    refine qb σ H1 P ρ _ _ (fr.same s1) (er.same s1) e2 fun w H2 s2 r2 => ?_
    obtain ⟨q, ov, rfl, g, hov⟩ := dget_ok r2 (r1.same s2) e4
    refine ⟨q, ov, rfl, g, k _ H2 (s1.trans s2) ⟨?_, trivial⟩⟩
    cases o with
    | none => rw [show ov = none from hov]; simp only [Rep]; rfl
    | some d => obtain ⟨u, rfl, _⟩ := hov; simp only [Rep]; rfl
theorem evT_notIn {a b : Expr} {f g : SE} (hu : X.A.units + 65 < cLine) (hm : behindInMarks .NotIn b = false) (ha : EvP X ks F a f) (hb : EvP X ks F b g) : EvT X ks F (.Compare a [.NotIn] [b] pos) (cBT notInD f g) := by
  obtain ⟨ta, pa, qa⟩ := ha.ex
  obtain ⟨tb, pb, qb⟩ := hb.ex
  refine ⟨fun σ H Q => tTest (tOp (fun x y H Q => _ ∨ _) ta tb) σ H Q ∨ tB (tDNotIn ta tb) σ H Q, ⟨fun pins s σ H Q I q => q.elim ((pt_cmpR (op_notIn_sign.or (op_notInP hu)) pa pb hm).run pins s σ H Q I) ((pt_cmp (pc_dnotin (by omega) pa pb) hm).run pins s σ H Q I)⟩, fun σ H P ρ Q c' fr er ev k => ?_⟩
  obtain ⟨d, e0, ev0⟩ := Option.bind_eq_some_iff.mp ev
  obtain ⟨x, e1, ev1⟩ := Option.bind_eq_some_iff.mp e0
  obtain ⟨y, e2, ev2⟩ := Option.bind_eq_some_iff.mp ev1
  obtain ⟨c, e3, rfl⟩ := Option.map_eq_some_iff.mp ev2
  cases ev0
  cases hy : isDic y with
  | false =>
    refine .inl (qa σ H P ρ _ x fr er e1 fun v H1 s1 r1 => ?_)
    refine qb σ H1 P ρ _ y (fr.same s1) (er.same s1) e2 fun w H2 s2 r2 => ?_
    exact in_seq (X := X) (neg := true) (Q := fun x H' => ∃ k, x = V.bl k ∧ Q k H') (isDic_ne hy) e3 (r1.same s2) r2 fun z hz => ⟨!c, by subst hz; rfl, k H2 (s1.trans s2)⟩
  | true =>
    obtain ⟨t, kvs, rfl⟩ := isDic_eq hy
    simp only [inB] at e3
    obtain ⟨o, e4, rfl⟩ := Option.map_eq_some_iff.mp e3
    refine .inr (qa σ H P ρ _ x fr er e1 fun v H1 s1 r1 => ?_)
    refine qb σ H1 P ρ _ _ (fr.same s1) (er.same s1) e2 fun w H2 s2 r2 => ?_
    obtain ⟨q, ov, rfl, g, hov⟩ := dget_ok r2 (r1.same s2) e4
    refine ⟨q, ov, rfl, g, !o.isSome, ?_, k H2 (s1.trans s2)⟩
    cases o with
    | none => rw [show ov = none from hov]; rfl
    | some d => obtain ⟨u, rfl, _⟩ := hov; rfl

/-! ### isinstance -/
def tyN : D → Option String
  | .non => some "NoneType"
  | .bl _ => some "bool"
  | .int _ => some "int"
  | .str _ => some "str"
  | .tup _ => some "tuple"
  | .lst _ => some "list"
  | _ => none
def isTy (t T : String) : Bool := t == T || (t == "bool" && T == "int")
def tyKnown (T : String) : Bool := T == "int" || T == "bool" || T == "str" || T == "tuple" || T == "list"
theorem kit_known {K : PySem.W.Frag} {d : D} {t T : String} (h : tyN d = some t) (hT : tyKnown T = true) : PySem.W.kitOne K (.type t) (.type T) = some (isTy t T) := by
  have q : ∀ a ∈ ["NoneType", "bool", "int", "str", "tuple", "list"], ∀ b ∈ ["int", "bool", "str", "tuple", "list"], kitB a b = some (isTy a b) := by decide +kernel
  refine kit_ty (q t ?_ T ?_)
  · cases d <;> simp only [tyN] at h <;> cases h <;> decide
  · unfold tyKnown at hT
    simp only [Bool.or_eq_true, beq_iff_eq] at hT
    rcases hT with (((rfl | rfl) | rfl) | rfl) | rfl <;> decide
theorem tyX_of {mg : Str → Option Value} {K : PySem.W.Frag} {P : Addr → Prop} {H : Hp} {d : D} {v : V} {t : String} (r : RepB mg P H d v) (h : tyN d = some t) : TyX K H v (.type t) := by
  cases d <;> simp only [tyN] at h <;> cases h <;> simp only [RepB, Rep] at r
  · subst r; exact .base .non
  · subst r; exact .base (.bl _)
  · subst r; exact .base (.int _)
  · subst r; exact .base (.str _)
  · obtain ⟨a, vs, rfl, h1, _⟩ := r; exact .base (.tup h1)
  · obtain ⟨a, vs, rfl, h1, _⟩ := r; exact .base (.lst h1)
def isiD (Ts : List String) (d : D) : Option D := (tyN d).map fun t => .bl (Ts.any fun T => isTy t T)
theorem evN_isi {p p2 : Pos} {T : String} {e : Expr} {f : SE} (hg : Gl X "isinstance") (hm : X.mg "isinstance" = none) (hT : tyKnown T = true) (hgT : Gl X (Str.ofString T)) (hmT : X.mg (Str.ofString T) = none) (hbT : bootBuiltins (Str.ofString T) = some (.type T)) (hnT : (Str.ofString T) ≠ "__name__") (hdT : ((Str.ofString T) == ("__debug__" : Str)) = false)
    (hs : noStar e = true) (h : EvP X ks F e f) : EvN X ks F (.Call (.Name "isinstance" p) [e, .Name (Str.ofString T) p2] [] pos) (cU (isiD [T]) f) := by
  obtain ⟨t, pt, q⟩ := h.ex
  refine ⟨_, pe_callB call_isi hg hm boot_isinstance (pa_cons pt (pa_cons (pe_bltn (v := .ty T) hgT hmT hbT rfl hnT hdT) pa_nil) (starEach_cons (noStar_ne hs))) (by decide) (by decide) (starEach_cons (noStar_ne hs)) (by rfl), fun σ H P ρ Q d fr er ev k => ?_⟩
  obtain ⟨x, e1, ev1⟩ := Option.bind_eq_some_iff.mp ev
  obtain ⟨ty, e2, rfl⟩ := Option.map_eq_some_iff.mp ev1
  refine q σ H P ρ _ x fr er e1 fun v H1 s1 r1 => ?_
  refine ⟨v, .ty T, .type ty, .type T, isTy ty T, rfl, .ty T, tyX_of r1 e2, kit_known e2 hT, ?_⟩
  exact k _ H1 s1 ⟨by simp [Rep], trivial⟩
theorem evN_isi2 {p p2 p3 p4 : Pos} {kt} {T U : String} {e : Expr} {f : SE} (hg : Gl X "isinstance") (hm : X.mg "isinstance" = none)
    (hT : tyKnown T = true) (hgT : Gl X (Str.ofString T)) (hmT : X.mg (Str.ofString T) = none) (hbT : bootBuiltins (Str.ofString T) = some (.type T)) (hnT : (Str.ofString T) ≠ "__name__") (hdT : ((Str.ofString T) == ("__debug__" : Str)) = false)
    (hU : tyKnown U = true) (hgU : Gl X (Str.ofString U)) (hmU : X.mg (Str.ofString U) = none) (hbU : bootBuiltins (Str.ofString U) = some (.type U)) (hnU : (Str.ofString U) ≠ "__name__") (hdU : ((Str.ofString U) == ("__debug__" : Str)) = false)
    (hs : noStar e = true) (h : EvP X ks F e f) : EvN X ks F (.Call (.Name "isinstance" p) [e, .Tuple [.Name (Str.ofString T) p2, .Name (Str.ofString U) p3] kt p4] [] pos) (cU (isiD [T, U]) f) := by
  obtain ⟨t, pt, q⟩ := h.ex
  refine ⟨_, pe_callB call_isiT hg hm boot_isinstance (pa_cons pt (pa_cons (pe_tup (pa_cons (pe_bltn (v := .ty T) hgT hmT hbT rfl hnT hdT) (pa_cons (pe_bltn (v := .ty U) hgU hmU hbU rfl hnU hdU) pa_nil))) pa_nil) (starEach_cons (noStar_ne hs))) (by decide) (by decide) (starEach_cons (noStar_ne hs)) (by rfl), fun σ H P ρ Q d fr er ev k => ?_⟩
  obtain ⟨x, e1, ev1⟩ := Option.bind_eq_some_iff.mp ev
  obtain ⟨ty, e2, rfl⟩ := Option.map_eq_some_iff.mp ev1
  refine q σ H P ρ _ x fr er e1 fun v H1 s1 r1 => ?_
  refine ⟨by show 2 ≤ sizeLine; decide, fun tp hp => ?_⟩
  refine ⟨v, tp, [.ty T, .ty U], .type ty, [.type T, .type U], [T, U].any fun T => isTy ty T, rfl, upd_same, .cons (.ty T) (.cons (.ty U) .nil), tyX_of (r1.same (same_new hp)) e2, ?_, ?_⟩
  · unfold PySem.W.kitAny
    rw [kit_known e2 hT]
    cases hh : isTy ty T with
    | true => simp [hh]
    | false =>
      simp only [List.any_cons, List.any_nil, hh, Bool.false_or, Bool.or_false]
      unfold PySem.W.kitAny
      rw [kit_known e2 hU]
      cases isTy ty U <;> rfl
  · exact k _ _ (s1.trans (same_new hp)) ⟨by simp only [Rep], trivial⟩
end
end RE
/-! RE7a: what enumerate and zip walk: lists, tuples, texts, in any mix. -/
namespace RE
open PySem PySem.Spec PyProof.Rows L2

/-- a walked thing: a list or a tuple at a place, or a text -/
inductive Sk where
  | l (a : Addr) | t (a : Addr) | s (z : Str)
def SkAt (H : Hp) : Sk → List V → Prop
  | .l a, xs => Rd H a (.lst xs)
  | .t a, xs => H a = some (.tup xs)
  | .s z, xs => xs = z.cps.toList.map fun c => .str ⟨#[c]⟩
def SkIt (it : Addr) : Sk → Nat → Heap → Prop
  | .l a, i, h => h.IsListIter it a i
  | .t a, i, h => h.IsTupleIter it a i
  | .s z, i, h => ∃ t, h.IsStrIter it (strIterType z) z t i
theorem Rd.lst_inj {H : Hp} {a : Addr} {xs ys : List V} (h : Rd H a (.lst xs)) (g : Rd H a (.lst ys)) : xs = ys := by
  rcases h with h | ⟨o, h⟩ <;> rcases g with g | ⟨o', g⟩ <;> (rw [h] at g; cases g; try rfl)
theorem SkAt.inj {H : Hp} {k : Sk} {xs ys : List V} (h : SkAt H k xs) (g : SkAt H k ys) : xs = ys := by
  cases k with
  | l a => exact Rd.lst_inj h g
  | t a => have h : H a = _ := h; rw [show H a = _ from g] at h; cases h; rfl
  | s z => rw [show xs = _ from h, show ys = _ from g]
theorem SkIt.obj {it : Addr} {k : Sk} {i : Nat} {h : Heap} (x : SkIt it k i h) : ∃ o, h.get? it = some o ∧ ∀ v, o.data ≠ .cell v := by
  cases k with
  | l a => obtain ⟨o, e, c, d⟩ := x; exact ⟨o, e, fun v z => by rw [d] at z; cases z⟩
  | t a => obtain ⟨o, e, c, d⟩ := x; exact ⟨o, e, fun v z => by rw [d] at z; cases z⟩
  | s z => obtain ⟨t, o, e, c, d⟩ := x; exact ⟨o, e, fun v z => by rw [d] at z; cases z⟩
theorem SkIt.keep {it : Addr} {k : Sk} {i : Nat} {h h' : Heap} (x : SkIt it k i h) (q : ∀ o, h.get? it = some o → h'.get? it = some o) : SkIt it k i h' := by
  cases k with
  | l a => exact Heap.IsListIter.at x q
  | t a => exact Heap.IsTupleIter.at x q
  | s z => obtain ⟨t, o, e, c, d⟩ := x; exact ⟨t, o, q o e, c, d⟩
/-- what the walked thing's iterator draws, here and now -/
theorem sk_draws {X : Cx} {pins : List (Addr × Obj)} {σ : L2.St} {H : Hp} {s : Shared} {k : Sk} {xs : List V} {it : Addr} {i : Nat} (I : Inv X pins σ H s) (hc : X.calm = true) (hk : SkAt H k xs) (hi : SkIt it k i s.heap) (hn : H it = none) :
    ∃ (fp : List Addr) (P : Nat → Value → Prop) (St : Nat → Heap → Prop), Draws X.prog X.w X.A.in1 it fp xs.length P St ∧ St i s.heap ∧ (∀ j u, P j u → ∃ x, xs[j]? = some x ∧ RelV x u) ∧ (∀ j h, St j h → SkIt it k j h) ∧ it ∈ fp ∧ ∀ b ∈ fp, b = it ∨ H b ≠ none := by
  have hh : X.A.in1.handled = none := I.ok.hd hc
  cases k with
  | l a =>
    obtain ⟨its, rv, p, hz⟩ := I.list (show SqL X.K H a xs from .inl hk)
    have hne : a ≠ it := fun e => by
      rcases hk with q | ⟨o, q⟩ <;> rw [e, hn] at q <;> cases q
    have hl : its.toArray.size = xs.length := by rw [List.size_toArray]; exact rv.length.symm
    refine ⟨[it, a], (fun j u => its.toArray[j]? = some u), (fun j h => h.IsListIter it a j ∧ h.IsList a its.toArray), by rw [← hl]; exact Draws.list hh it a hne its.toArray, ⟨hi, p.isList⟩, fun j u e => ?_, fun j h x => x.1, by simp, fun b hb => ?_⟩
    · have e : its[j]? = some u := by simpa using e
      cases q : xs[j]? with
      | none => rw [rv.none_of q] at e; cases e
      | some x =>
        obtain ⟨u', e1, r⟩ := rv.get q
        rw [e] at e1; cases e1
        exact ⟨x, rfl, r⟩
    · rcases List.mem_cons.mp hb with e | hb
      · exact .inl e
      · rw [List.mem_singleton.mp hb]
        exact .inr (by rcases hk with q | ⟨o, q⟩ <;> (rw [q]; simp))
  | t a =>
    have hk : H a = some (.tup xs) := hk
    obtain ⟨its, rv, p, hz⟩ := I.tuple (SqT.of hk)
    have hne : a ≠ it := fun e => by rw [e, hn] at hk; cases hk
    have hl : its.toArray.size = xs.length := by rw [List.size_toArray]; exact rv.length.symm
    refine ⟨[it, a], (fun j u => its.toArray[j]? = some u), (fun j h => h.IsTupleIter it a j ∧ h.IsTuple a its.toArray), by rw [← hl]; exact Draws.tuple hh it a hne its.toArray, ⟨hi, p⟩, fun j u e => ?_, fun j h x => x.1, by simp, fun b hb => ?_⟩
    · have e : its[j]? = some u := by simpa using e
      cases q : xs[j]? with
      | none => rw [rv.none_of q] at e; cases e
      | some x =>
        obtain ⟨u', e1, r⟩ := rv.get q
        rw [e] at e1; cases e1
        exact ⟨x, rfl, r⟩
    · rcases List.mem_cons.mp hb with e | hb
      · exact .inl e
      · rw [List.mem_singleton.mp hb]
        exact .inr (by rw [hk]; simp)
  | s z =>
    obtain ⟨t, hi⟩ := hi
    have hk : xs = z.cps.toList.map fun c => .str ⟨#[c]⟩ := hk
    have hl : z.cps.size = xs.length := by rw [hk, List.length_map]; simp
    refine ⟨[it], (fun j u => ∃ c v, z.cps[j]? = some c ∧ u = .str ⟨#[c]⟩ v), (fun j h => h.IsStrIter it (strIterType z) z t j), by rw [← hl]; exact Draws.text hh it z t, hi, fun j u e => ?_, fun j h x => ⟨t, x⟩, by simp, fun b hb => .inl (List.mem_singleton.mp hb)⟩
    obtain ⟨c, u', e1, e2⟩ := e
    refine ⟨.str ⟨#[c]⟩, ?_, by rw [e2]; exact ⟨u', rfl⟩⟩
    rw [hk, List.getElem?_map, Array.getElem?_toList, e1]; rfl

section
variable {P : Program} {w : World} {K : PySem.W.Frag} {elts : List Expr} {kk : Nat} {tpos : Pos}
/-- enumerate: at each turn a new pair -/
def Iteg (k : Sk) : It :=
  ⟨fun i H => ∃ xs x, SkAt H k xs ∧ xs[i]? = some x, fun i H v H' => ∃ T x, v = .ref T ∧ H T = none ∧ H' = upd H T (.tup [.int (i : Nat), x]) ∧ ∀ xs, SkAt H k xs → xs[i]? = some x, fun i H => ∃ xs, SkAt H k xs ∧ xs.length = i⟩
theorem turn_enumG (k : Sk) (e it : Addr) : Turn P w K (.Tuple elts kk tpos) (Iteg k) [e, it] e (fun i h => (∃ old, IsEnum h e it ((i : Nat) : Int) old) ∧ SkIt it k i h ∧ e ≠ it) where
  mem := List.mem_cons_self
  obj := fun i h st b hb => by
    obtain ⟨⟨old, q⟩, q2, _⟩ := st
    simp only [List.mem_cons, List.not_mem_nil, or_false] at hb
    rcases hb with rfl | rfl
    · exact ⟨_, q, (fun v z => nomatch z)⟩
    · exact q2.obj
  keep := fun i h h' st g => ⟨let ⟨old, q⟩ := st.1; ⟨old, g e (by simp) _ q⟩, st.2.1.keep fun o q => g it (by simp) o q, st.2.2⟩
  item := by
    intro X hP hw hK hc i pins s σ H E I hf st hg
    subst hP hw hK
    obtain ⟨⟨old, he⟩, hi, hne⟩ := st
    obtain ⟨xs, x, hx, hxi⟩ := hg
    have hlt : i < xs.length := (List.getElem?_eq_some_iff.mp hxi).1
    have nit := (hf it (by simp)).1
    have ne := (hf e (by simp)).1
    obtain ⟨fp, Pd, Sd, dr, sd, hp, hsk, hm, hfp⟩ := sk_draws I hc hx hi nit
    have hef : e ∉ fp := fun z => (hfp e z).elim (fun q => hne q) fun q => q ne
    have szE : e < s.heap.objs.size := Heap.lt_size he
    have szI : it < s.heap.objs.size := by obtain ⟨o, q, _⟩ := hi.obj; exact Heap.lt_size q
    refine wpAny_pyNext_enum_itemD dr he sd hlt hne hef fun u h1 tk hu hout sd' hT hsz hkp => ⟨_, rfl, ?_⟩
    refine wpAny_letOwnedTupleGo_enum (s := { s with heap := h1, toks := tk + 1 }) hout fun h2 he2 sb => ?_
    obtain ⟨y, hy, ry⟩ := hp i u hu
    rw [hxi] at hy; cases hy
    have hT2 := (sb.2 s.heap.objs.size (Nat.ne_of_gt szE)).trans hT
    have okT : ObjOk X.prog X.w (upd H s.heap.objs.size (.tup [.int (i : Nat), x])) h2 s.heap.objs.size (.tup [.int (i : Nat), x]) :=
      ⟨(by decide : 2 ≤ sizeLine), [.int i tk, u], .cons ⟨_, rfl⟩ (.cons ry .nil), _, hT2, rfl, _, rfl⟩
    have J : Inv X pins σ (upd H s.heap.objs.size (.tup [.int (i : Nat), x])) { s with heap := h2, toks := tk + 1 } := by
      refine I.turnedNew (ch := [e, it]) (fun b o hb q => ?_) hf (Nat.le_refl _) okT
      simp only [List.mem_cons, List.not_mem_nil, or_false, not_or] at hb
      exact (sb.2 b hb.1).trans (hkp b o hb.1 hb.2 q)
    refine ⟨.ref s.heap.objs.size, _, J, rfl, ⟨_, x, rfl, I.hok.fresh (Nat.le_refl _), rfl, fun ys hy => by rw [hy.inj hx]; exact hxi⟩, ⟨⟨u, by rw [show ((i + 1 : Nat) : Int) = (i : Int) + 1 from rfl]; exact he2⟩, (hsk _ _ sd').keep fun o q => (sb.2 it (Ne.symm hne)).trans q, hne⟩, fun b hb => ?_⟩
    have lt : b < s.heap.objs.size := by
      simp only [List.mem_cons, List.not_mem_nil, or_false] at hb
      rcases hb with rfl | rfl <;> assumption
    rw [upd_ne (Nat.ne_of_lt lt)]
    exact (hf b hb).1
  done := by
    intro X hP hw hK hc i pins s σ H E I hf st hg
    subst hP hw hK
    obtain ⟨⟨old, he⟩, hi, hne⟩ := st
    obtain ⟨xs, hx, rfl⟩ := hg
    obtain ⟨f0, f1, f2, f3, f4, f5⟩ := hf it (by simp)
    obtain ⟨fp, Pd, Sd, dr, sd, _⟩ := sk_draws I hc hx hi f0
    exact wpAny_pyNext_enum_endD dr he sd fun h1 eb => ⟨rfl, I.turned (t' := s.toks) (fun b o hb q => eb b o hb q) f0 f1 f3 f4 f5⟩
  self := fun A i s Q E st h => wpAny_pyIter_enum st.1.choose_spec h

/-- zip of two -/
def Itzg (k1 k2 : Sk) : It :=
  ⟨fun i H => ∃ xs ys x y, SkAt H k1 xs ∧ SkAt H k2 ys ∧ xs[i]? = some x ∧ ys[i]? = some y,
   fun i H v H' => ∃ T x y, v = .ref T ∧ H T = none ∧ H' = upd H T (.tup [x, y]) ∧ (∀ xs, SkAt H k1 xs → xs[i]? = some x) ∧ ∀ ys, SkAt H k2 ys → ys[i]? = some y,
   fun i H => ∃ xs ys, SkAt H k1 xs ∧ SkAt H k2 ys ∧ i = min xs.length ys.length⟩
/-- zip's own five cells stand apart -/
structure Ap5 (z TI TO i1 i2 : Addr) : Prop where
  a : TI ≠ z
  b : TO ≠ z
  c : TI ≠ TO
  d : TI ≠ i1
  e : TI ≠ i2
  f : z ≠ i1
  g : z ≠ i2
  h : TO ≠ i1
  i : TO ≠ i2
  j : i1 ≠ i2
theorem Ap5.sep {z TI TO i1 i2 : Addr} {fp1 fp2 : List Addr} {H : Hp} (D : Ap5 z TI TO i1 i2) (h1 : i1 ∈ fp1) (h2 : i2 ∈ fp2) (g1 : ∀ b ∈ fp1, b = i1 ∨ H b ≠ none) (g2 : ∀ b ∈ fp2, b = i2 ∨ H b ≠ none)
    (nz : H z = none) (nO : H TO = none) (n1 : H i1 = none) (n2 : H i2 = none) : ZipSep2 z TI TO i1 i2 fp1 fp2 where
  TIz := D.a
  TOz := D.b
  TITO := D.c
  TIi1 := D.d
  mem1 := h1
  zf1 := fun q => (g1 z q).elim D.f fun r => r nz
  Tf1 := fun q => (g1 TO q).elim D.h fun r => r nO
  TIi2 := D.e
  mem2 := h2
  zf2 := fun q => (g2 z q).elim D.g fun r => r nz
  Tf2 := fun q => (g2 TO q).elim D.i fun r => r nO
  sep1_2 := fun q => (g2 i1 q).elim D.j fun r => r n1
  sep2_1 := fun q => (g1 i2 q).elim (Ne.symm D.j) fun r => r n2
theorem turn_zipG {z TI TO i1 i2 : Addr} (k1 k2 : Sk) (D : Ap5 z TI TO i1 i2) : Turn P w K (.Tuple elts kk tpos) (Itzg k1 k2) [z, TI, TO, i1, i2] z
    (fun i h => IsZip h z TI TO .none ∧ IsTupOf2 h TI (.ref i1) (.ref i2) ∧ (∃ a1 a2, IsTupOf2 h TO a1 a2) ∧ SkIt i1 k1 i h ∧ SkIt i2 k2 i h) where
  mem := List.mem_cons_self
  obj := fun i h st b hb => by
    obtain ⟨q1, q2, ⟨a1, a2, q3⟩, q4, q5⟩ := st
    simp only [List.mem_cons, List.not_mem_nil, or_false] at hb
    rcases hb with rfl | rfl | rfl | rfl | rfl
    · exact ⟨_, q1, (fun v z => nomatch z)⟩
    · exact ⟨_, q2, (fun v z => nomatch z)⟩
    · exact ⟨_, q3, (fun v z => nomatch z)⟩
    · exact q4.obj
    · exact q5.obj
  keep := fun i h h' st g => ⟨g z (by simp) _ st.1, g TI (by simp) _ st.2.1, let ⟨a1, a2, q⟩ := st.2.2.1; ⟨a1, a2, g TO (by simp) _ q⟩, st.2.2.2.1.keep fun o q => g i1 (by simp) o q, st.2.2.2.2.keep fun o q => g i2 (by simp) o q⟩
  item := by
    intro X hP hw hK hc i pins s σ H E I hf st hg
    subst hP hw hK
    obtain ⟨hz, hTI, ⟨a1, a2, hTO⟩, hi1, hi2⟩ := st
    obtain ⟨xs, ys, x, y, hx, hy, hxi, hyi⟩ := hg
    have n1 := (hf i1 (by simp)).1
    have n2 := (hf i2 (by simp)).1
    have nz := (hf z (by simp)).1
    have nO := (hf TO (by simp)).1
    obtain ⟨fp1, P1, S1, d1, s1, p1, sk1, m1, g1⟩ := sk_draws I hc hx hi1 n1
    obtain ⟨fp2, P2, S2, d2, s2, p2, sk2, m2, g2⟩ := sk_draws I hc hy hi2 n2
    have sep := D.sep m1 m2 g1 g2 nz nO n1 n2
    have szz : z < s.heap.objs.size := Heap.lt_size hz
    refine wpAny_pyNext_zipD2_item sep d1 d2 hz hTI hTO s1 s2 (List.getElem?_eq_some_iff.mp hxi).1 (List.getElem?_eq_some_iff.mp hyi).1 fun u1 u2 h1 tk hu1 hu2 hz1 hTO1 s1' s2' hT hsz hkp => ⟨_, rfl, ?_⟩
    refine wpAny_letOwnedTupleGo_zip (s := { s with heap := h1, toks := tk }) hz1 fun h2 hz2 sb => ?_
    obtain ⟨x', e1, r1⟩ := p1 i u1 hu1
    rw [hxi] at e1; cases e1
    obtain ⟨y', e2, r2⟩ := p2 i u2 hu2
    rw [hyi] at e2; cases e2
    have hT2 := (sb.2 s.heap.objs.size (Nat.ne_of_gt szz)).trans hT
    have okT : ObjOk X.prog X.w (upd H s.heap.objs.size (.tup [x, y])) h2 s.heap.objs.size (.tup [x, y]) :=
      ⟨(by decide : 2 ≤ sizeLine), [u1, u2], .cons r1 (.cons r2 .nil), _, hT2, rfl, _, rfl⟩
    have J : Inv X pins σ (upd H s.heap.objs.size (.tup [x, y])) { s with heap := h2, toks := tk } := by
      refine I.turnedNew (ch := [z, TI, TO, i1, i2]) (fun b o hb q => ?_) hf (Nat.le_refl _) okT
      simp only [List.mem_cons, List.not_mem_nil, or_false, not_or] at hb
      exact (sb.2 b hb.1).trans (hkp b o hb.1 hb.2.2.1 hb.2.2.2.1 hb.2.2.2.2 q)
    refine ⟨.ref s.heap.objs.size, _, J, rfl, ⟨_, x, y, rfl, I.hok.fresh (Nat.le_refl _), rfl, fun zs hq => by rw [hq.inj hx]; exact hxi, fun zs hq => by rw [hq.inj hy]; exact hyi⟩, ⟨hz2, ?_, ⟨u1, u2, ?_⟩, ?_, ?_⟩, fun b hb => ?_⟩
    · exact (sb.2 TI D.a).trans (hkp TI _ D.a D.c D.d D.e hTI)
    · exact (sb.2 TO D.b).trans hTO1
    · exact (sk1 _ _ s1').keep fun o q => (sb.2 i1 (Ne.symm D.f)).trans q
    · exact (sk2 _ _ s2').keep fun o q => (sb.2 i2 (Ne.symm D.g)).trans q
    · have lt : b < s.heap.objs.size := by
        simp only [List.mem_cons, List.not_mem_nil, or_false] at hb
        rcases hb with rfl | rfl | rfl | rfl | rfl
        · exact szz
        · exact Heap.lt_size hTI
        · exact Heap.lt_size hTO
        · obtain ⟨o, q, _⟩ := hi1.obj; exact Heap.lt_size q
        · obtain ⟨o, q, _⟩ := hi2.obj; exact Heap.lt_size q
      rw [upd_ne (Nat.ne_of_lt lt)]
      exact (hf b hb).1
  done := by
    intro X hP hw hK hc i pins s σ H E I hf st hg
    subst hP hw hK
    obtain ⟨hz, hTI, ⟨a1, a2, hTO⟩, hi1, hi2⟩ := st
    obtain ⟨xs, ys, hx, hy, hmin⟩ := hg
    have n1 := (hf i1 (by simp)).1
    have n2 := (hf i2 (by simp)).1
    obtain ⟨fp1, P1, S1, d1, s1, p1, sk1, m1, g1⟩ := sk_draws I hc hx hi1 n1
    obtain ⟨fp2, P2, S2, d2, s2, p2, sk2, m2, g2⟩ := sk_draws I hc hy hi2 n2
    have sep := D.sep m1 m2 g1 g2 (hf z (by simp)).1 (hf TO (by simp)).1 n1 n2
    refine wpAny_pyNext_zipD2_end sep d1 d2 hz hTI hTO s1 s2 (by omega) (by omega) (by omega) fun h1 tk hkp => ⟨rfl, ?_⟩
    refine I.turnedL (ch := [z, TI, TO, i1, i2]) (fun b o hb q => ?_) hf
    simp only [List.mem_cons, List.not_mem_nil, or_false, not_or] at hb
    exact hkp b o hb.1 hb.2.2.1 hb.2.2.2.1 hb.2.2.2.2 q
  self := fun A i s Q E st h => wpAny_pyIter_zip st.1 h
end
end RE
/-! RE7b: what a for or a comprehension walks, by trees. -/
namespace RE
open PySem PySem.Spec PyProof.Rows L2

/-- enumerate(v) of one argument, v by how its iterator begins -/
theorem meets_enum1 {v : Value} {o : Obj} {G : Heap → Prop} (B : Begins v o G) :
    Meets (Builtin.«enumerate.__new__» ⟨[.type "enumerate", v], []⟩) fun _ R s => G s.heap ∧
      R (.ok (.ret (.ref (s.heap.push o).objs.size))) { s with heap := (s.heap.push o).push { cls := .type "enumerate", data := .fields #[.none, .bool false, .ref s.heap.objs.size, rawInt 0, .none, .none] } } :=
  .of_wp fun prog w A R s h => by
    obtain ⟨hp, gens, dr, tk, os⟩ := s
    obtain ⟨g, r⟩ := h
    have hsub := sub_enumerate
    have it0 : ∀ {A' : Around} {E' : Value → Shared → Prop} {Q' : Value → Shared → Prop}, Q' (.ref hp.objs.size) ⟨hp.push o, gens, dr, tk, os⟩ → wpAny (model prog w) A' (pyIter v) Q' E' ⟨hp, gens, dr, tk, os⟩ := fun q => B.iter prog w _ _ ⟨hp, gens, dr, tk, os⟩ _ g q
    wp_walk using it0
    refine wpAny_stack_any fun st => ?_
    refine wpAny_pure ?_
    split
    · next c _ _ _ _ _ =>
      cases (c == Value.type "enumerate") <;>
        (wp_walk using it0
         exact ⟨_, rfl, r⟩)
    · wp_walk using it0
      exact ⟨_, rfl, r⟩
theorem call_enum1 {prog : Program} {w : World} {A : Around} {E : Value → Shared → Prop} {s : Shared} {v : Value} {o : Obj} {G : Heap → Prop} {Q : Value → Shared → Prop} (B : Begins v o G) (g : G s.heap)
    (h : ∀ h', IsEnum h' (s.heap.objs.size + 1) s.heap.objs.size 0 .none → h'.get? s.heap.objs.size = some o → (∀ b ob, s.heap.get? b = some ob → h'.get? b = some ob) → Q (.ref (s.heap.objs.size + 1)) { s with heap := h' }) :
    wpAny (model prog w) A (call (.type "enumerate") [v]) Q E s := by
  refine callType_new F.called_enumerate (by decide) (F.typeCall_enumerate_1 _) (F.newCall_enumerate_1 _) (fun ob => F.args_object_init_2 ob _) F.entry_enumerate_new (meets_enum1 B) ⟨g, ?_⟩
  have sz : (s.heap.push o).objs.size = s.heap.objs.size + 1 := Heap.size_push ..
  have e1 : IsEnum ((s.heap.push o).push { cls := .type "enumerate", data := .fields #[.none, .bool false, .ref s.heap.objs.size, rawInt 0, .none, .none] }) (s.heap.objs.size + 1) s.heap.objs.size 0 .none := by
    have q := Heap.get?_push_size (s.heap.push o) (o := { cls := .type "enumerate", data := .fields #[.none, .bool false, .ref s.heap.objs.size, rawInt 0, .none, .none] }) rfl
    rw [sz] at q
    exact q
  show _ ∧ _
  rw [sz]
  exact ⟨⟨_, e1, rfl⟩, h _ e1 (Heap.get?_push_of_some _ (Heap.get?_push_size _ B.free)) fun b ob q => Heap.get?_push_of_some _ (Heap.get?_push_of_some _ q)⟩

/-- the value of a walked thing -/
def skV : Sk → V
  | .l a => .ref a
  | .t a => .ref a
  | .s z => .str z
theorem sk_begins {X : Cx} {pins : List (Addr × Obj)} {σ : L2.St} {H : Hp} {s : Shared} {k : Sk} {xs : List V} {u : Value} (I : Inv X pins σ H s) (hk : SkAt H k xs) (r : RelV (skV k) u) :
    ∃ (o : Obj) (G : Heap → Prop), Begins u o G ∧ G s.heap ∧ ∀ it h, h.get? it = some o → SkIt it k 0 h := by
  cases k with
  | l a =>
    cases (show u = Value.ref a from r)
    obtain ⟨its, rv, p, _⟩ := I.list (show SqL X.K H a xs from .inl hk)
    exact ⟨_, _, begins_list a its.toArray, p.isList, fun it h e => ⟨_, e, rfl, rfl⟩⟩
  | t a =>
    cases (show u = Value.ref a from r)
    obtain ⟨its, rv, p, _⟩ := I.tuple (SqT.of hk)
    exact ⟨_, _, begins_tuple a its.toArray, p, fun it h e => ⟨_, e, rfl, rfl⟩⟩
  | s z =>
    obtain ⟨t, rfl⟩ := (show ∃ t, u = Value.str z t from r)
    exact ⟨_, _, begins_text z t, trivial, fun it h e => ⟨t, _, e, rfl, rfl⟩⟩
section
variable {X : Cx}
def iEnG (ta : TA) : TI := fun σ H R => ta σ H fun vs H1 => ∃ k xs, vs = [skV k] ∧ SkAt H1 k xs ∧ R (Iteg k) H1
theorem boot_enum' : bootBuiltins "enumerate" = some (.type "enumerate") := by decide +kernel
theorem pi_enumG {e : Expr} {ta : TA} {p pos tpos : Pos} {elts : List Expr} {kk : Nat} (hg : Gl X "enumerate") (hm : X.mg "enumerate" = none) (ha : PA X [e] ta) (hs : starEach [e] X.env = [(false, eval e X.env)]) :
    PI X (.Tuple elts kk tpos) (.Call (.Name "enumerate" p) [e] [] pos) (iEnG ta) := by
  refine ⟨fun pins s σ H R I h => ?_⟩
  refine Call_ (ld_blt I hg hm boot_enum' (PyProof.Rows.callWith_type1 (thn (ha.run pos pins s σ H _ I h) fun us s1 ⟨vs, H1, I1, r1, k, xs, ev, hk, q⟩ => ?_) hs rfl))
  subst ev
  obtain ⟨u, rfl, ru⟩ := vals1 r1
  obtain ⟨o, G, B, g, fin⟩ := sk_begins I1 hk ru
  refine call_enum1 B g fun h' he hi hkp => wpAny_pyIter_enum he ?_
  have J : Inv X pins σ H1 { s1 with heap := h' } := I1.kept (t' := s1.toks) hkp
  refine ⟨s1.heap.objs.size + 1, [s1.heap.objs.size + 1, s1.heap.objs.size], _, _, H1, rfl, J, turn_enumG k (s1.heap.objs.size + 1) s1.heap.objs.size, ⟨⟨.none, he⟩, fin _ _ hi, Nat.succ_ne_self _⟩, fun b hb => ?_, q⟩
  have le : s1.heap.objs.size ≤ b := by
    simp only [List.mem_cons, List.not_mem_nil, or_false] at hb
    rcases hb with rfl | rfl
    · exact Nat.le_succ _
    · exact Nat.le_refl _
  exact I1.fpOk le (I1.hok.fresh le)
def iZpG (ta : TA) : TI := fun σ H R => ta σ H fun vs H1 => ∃ k1 k2 xs ys, vs = [skV k1, skV k2] ∧ SkAt H1 k1 xs ∧ SkAt H1 k2 ys ∧ R (Itzg k1 k2) H1
theorem ap5 (N : Addr) : Ap5 (N + 4) (N + 2) (N + 3) N (N + 1) := by
  have h : ∀ {i j : Nat}, i ≠ j → (N : Nat) + i ≠ N + j := fun q e => q (Nat.add_left_cancel e)
  exact ⟨h (by decide), h (by decide), h (by decide), h (i := 2) (j := 0) (by decide), h (by decide), h (i := 4) (j := 0) (by decide), h (by decide), h (i := 3) (j := 0) (by decide), h (by decide), h (i := 0) (j := 1) (by decide)⟩
theorem pi_zipG {e e2 : Expr} {ta : TA} {p pos tpos : Pos} {elts : List Expr} {kk : Nat} (hg : Gl X "zip") (hm : X.mg "zip" = none) (ha : PA X [e, e2] ta) (hs : starEach [e, e2] X.env = (false, eval e X.env) :: starEach [e2] X.env) (hpl : (backTo pos (starEach [e2] X.env)).any (·.1) = false) :
    PI X (.Tuple elts kk tpos) (.Call (.Name "zip" p) [e, e2] [] pos) (iZpG ta) := by
  refine ⟨fun pins s σ H R I h => ?_⟩
  refine Call_ (ld_blt I hg hm PyProof.Rows.boot_zip (PyProof.Rows.callWith_type1 (thn (ha.run pos pins s σ H _ I h) fun us s1 ⟨vs, H1, I1, r1, k1, k2, xs, ys, ev, hk1, hk2, q⟩ => ?_) hs hpl))
  subst ev
  obtain ⟨u1, u2, rfl, r2, r3⟩ := vals2 r1
  obtain ⟨o1, G1, B1, g1, fin1⟩ := sk_begins I1 hk1 r2
  obtain ⟨o2, G2, B2, g2, fin2⟩ := sk_begins I1 hk2 r3
  refine zip_begins2 B1 B2 g1 g2 fun h' hz hTI hTO q1 q2 hsz hkp => wpAny_pyIter_zip hz ?_
  have J : Inv X pins σ H1 { s1 with heap := h' } := I1.kept (t' := s1.toks) hkp
  refine ⟨s1.heap.objs.size + 4, [s1.heap.objs.size + 4, s1.heap.objs.size + 2, s1.heap.objs.size + 3, s1.heap.objs.size, s1.heap.objs.size + 1], _, _, H1, rfl, J, turn_zipG k1 k2 (ap5 s1.heap.objs.size), ⟨hz, hTI, ⟨_, _, hTO⟩, fin1 _ _ q1, fin2 _ _ q2⟩, fun b hb => ?_, q⟩
  have le : s1.heap.objs.size ≤ b := by
    simp only [List.mem_cons, List.not_mem_nil, or_false] at hb
    rcases hb with rfl | rfl | rfl | rfl | rfl <;> first | exact Nat.le_add_right _ _ | exact Nat.le_refl _
  exact I1.fpOk le (I1.hok.fresh le)
end

/-! ### walks by trees -/
/-- what stood at H1 at the places that matter stands at H2: the allowed ones, those that never change, those at src -/
def Kept (P : Addr → Prop) (src : List Addr) (H1 H2 : Hp) : Prop := ∀ b o, H1 b = some o → (P b ∨ ¬ Chg (some o) ∨ b ∈ src) → H2 b = some o
theorem Kept.refl {P : Addr → Prop} {src : List Addr} {H : Hp} : Kept P src H H := fun _ _ e _ => e
theorem Kept.of {P : Addr → Prop} {src : List Addr} {H H' : Hp} (s : Same H H') : Kept P src H H' := fun b o e _ => s b o e
theorem HD.kept {t : Bool} {P : Addr → Prop} {src : List Addr} {H1 H2 : Hp} {a : Addr} {ps : List (D × V)} (k : Kept P src H1 H2) (h : HD t H1 a ps) (pa : P a) : HD t H2 a ps := by
  cases t <;> obtain ⟨ks, (r | ⟨o, r⟩), e⟩ := h
  · exact ⟨ks, .inl (k _ _ r (.inl pa)), e⟩
  · exact ⟨ks, .inr ⟨o, k _ _ r (.inl pa)⟩, e⟩
  · exact ⟨ks, .inl (k _ _ r (.inl pa)), e⟩
  · exact ⟨ks, .inr ⟨o, k _ _ r (.inl pa)⟩, e⟩
mutual
theorem Rep.kept {P : Addr → Prop} {src : List Addr} {H1 H2 : Hp} (k : Kept P src H1 H2) : ∀ (d : D) (v : V), Rep P H1 d v → Rep P H2 d v
  | .non, v, h => by simpa only [Rep] using h
  | .bl b, v, h => by simpa only [Rep] using h
  | .int i, v, h => by simpa only [Rep] using h
  | .str x, v, h => by simpa only [Rep] using h
  | .tup ds, v, h => by
    simp only [Rep] at h ⊢
    obtain ⟨a, vs, e, h1, h2⟩ := h
    exact ⟨a, vs, e, k _ _ h1 (.inr (.inl fun z => z)), RepL.kept k ds vs h2⟩
  | .lst ds, v, h => by
    simp only [Rep] at h ⊢
    obtain ⟨a, vs, e, h0, h1, h2⟩ := h
    exact ⟨a, vs, e, h0, k _ _ h1 (.inl h0), RepL.kept k ds vs h2⟩
  | .dic t kvs, v, h => by
    simp only [Rep] at h ⊢
    obtain ⟨a, ps, e, h0, h1, h2⟩ := h
    exact ⟨a, ps, e, h0, h1.kept k h0, RepKV.kept k kvs ps h2⟩
  | .scr ns, v, h => by
    simp only [Rep] at h ⊢
    obtain ⟨a, o, e, h1⟩ := h
    exact ⟨a, o, e, k _ _ h1 (.inr (.inl fun z => z))⟩
  | .fn f, v, h => by simp only [Rep] at h
theorem RepL.kept {P : Addr → Prop} {src : List Addr} {H1 H2 : Hp} (k : Kept P src H1 H2) : ∀ (ds : List D) (vs : List V), RepL P H1 ds vs → RepL P H2 ds vs
  | [], vs, h => by simpa only [RepL] using h
  | d :: ds, vs, h => by
    simp only [RepL] at h ⊢
    obtain ⟨v, r, e, h1, h2⟩ := h
    exact ⟨v, r, e, Rep.kept k d v h1, RepL.kept k ds r h2⟩
theorem RepKV.kept {P : Addr → Prop} {src : List Addr} {H1 H2 : Hp} (k : Kept P src H1 H2) : ∀ (kvs : List (D × D)) (ps : List (D × V)), RepKV P H1 kvs ps → RepKV P H2 kvs ps
  | [], ps, h => by simpa only [RepKV] using h
  | (q, d) :: kvs, ps, h => by
    simp only [RepKV] at h ⊢
    obtain ⟨v, r, e, h1, h2⟩ := h
    exact ⟨v, r, e, Rep.kept k d v h1, RepKV.kept k kvs r h2⟩
end
/-- J walks the trees ds, from H1 on, wherever the places that matter are kept -/
structure WalkD (P : Addr → Prop) (src : List Addr) (J : It) (ds : List D) (H1 : Hp) : Prop where
  there : ∀ a ∈ src, H1 a ≠ none
  goes : ∀ H2 i, Kept P src H1 H2 → i < ds.length → J.go i H2
  stops : ∀ H2, Kept P src H1 H2 → J.stop ds.length H2
  yields : ∀ H2 i x H3, Kept P src H1 H2 → i < ds.length → J.yld i H2 x H3 → Same H2 H3 ∧ ∃ d, ds[i]? = some d ∧ Rep P H3 d x
/-- lists and dicts -/
def isMut : D → Bool
  | .lst _ => true
  | .dic _ _ => true
  | _ => false
theorem RepB.mut {mg : Str → Option Value} {P : Addr → Prop} {H : Hp} {d : D} {a : Addr} (h : RepB mg P H d (.ref a)) (hf : ∀ g, d ≠ .fn g) (c : Chg (H a)) : isMut d = true := by
  cases d <;> simp only [RepB, Rep] at h <;> first | rfl | skip
  · cases h
  · cases h
  · cases h
  · cases h
  · obtain ⟨b, vs, e, h1, _⟩ := h; cases e; rw [h1] at c; exact c.elim
  · obtain ⟨b, o, e, h1⟩ := h; cases e; rw [h1] at c; exact c.elim
  · exact absurd rfl (hf _)
/-- a place where a list or dict that is looked at stands: allowed, or the slot of one that is not changed now -/
def Top (ks : Ks) (σ : L2.St) (ρ : RE.Env) (P : Addr → Prop) (a : Addr) : Prop := P a ∨ ∃ i d, (kd ks i = .L ∨ kd ks i = .B) ∧ σ[i]? = some (some (.ref a)) ∧ ρ[i]? = some (some d) ∧ isMut d = true
/-- e gives f, to be looked at, at a place that is not changed meanwhile -/
structure EvQ (X : Cx) (ks : Ks) (F : Fn) (e : Expr) (f : SE) : Prop where
  ex : ∃ t : TE, PE X e t ∧ ∀ σ H (P : Addr → Prop) (ρ : RE.Env) (Q : VK) (d : D), Fre P H → ER X.mg P ks H σ ρ → f F ρ = some d →
    (∀ v H', Same H H' → (RepB X.mg P H' d v ∧ ∀ a, v = .ref a → (∀ g, d ≠ .fn g) → Chg (H' a) → Top ks σ ρ P a) → Q v H') → t σ H Q
theorem EvQ.toP {X : Cx} {ks : Ks} {F : Fn} {e : Expr} {f : SE} (h : EvQ X ks F e f) : EvP X ks F e f :=
  let ⟨t, p, q⟩ := h.ex
  ⟨t, p, fun σ H P ρ Q d fr er ev k => q σ H P ρ Q d fr er ev fun v H' s r => k v H' s r.1⟩
theorem Rep.top {P : Addr → Prop} {H : Hp} {d : D} {a : Addr} (h : Rep P H d (.ref a)) (c : Chg (H a)) : P a := by
  cases d <;> simp only [Rep] at h
  · cases h
  · cases h
  · cases h
  · cases h
  · obtain ⟨b, vs, e, h1, _⟩ := h; cases e; rw [h1] at c; exact c.elim
  · obtain ⟨b, vs, e, h0, _⟩ := h; cases e; exact h0
  · obtain ⟨b, vs, e, h0, _⟩ := h; cases e; exact h0
  · obtain ⟨b, o, e, h1⟩ := h; cases e; rw [h1] at c; exact c.elim
theorem EvE.toQ {X : Cx} {ks : Ks} {F : Fn} {e : Expr} {f : SE} (h : EvE X ks F e f) : EvQ X ks F e f :=
  let ⟨t, p, q⟩ := h.ex
  ⟨t, p, fun σ H P ρ Q d fr er ev k => q σ H P ρ Q d fr er ev fun v H' s r => k v H' s ⟨r.toB, fun a e _ c => .inl (by subst e; exact Rep.top r c)⟩⟩
theorem evQ_var {X : Cx} {ks : Ks} {F : Fn} {pos : Pos} {i : Nat} {x : Str} (hN : X.N[i]? = some x) (hv : Vis X.env.scope x) (hk : kd ks i = .L ∨ kd ks i = .B) (hd : (x == ("__debug__" : Str)) = false) (hcd : (x == ("__classdict__" : Str)) = false) : EvQ X ks F (.Name x pos) (cV i) := by
  refine ⟨tVar i, pe_var hN hv hd hcd, fun σ H P ρ Q d fr er ev k => ?_⟩
  obtain ⟨v, e, r⟩ := er.2 i d (cV_some ev)
  exact ⟨v, e, k v H (Same.refl H) ⟨r.toB, fun a ea hf c => .inr ⟨i, d, hk, by rw [e, ea], cV_some ev, by subst ea; exact r.toB.mut hf c⟩⟩⟩
abbrev SL := Fn → RE.Env → Option (List D)
/-- iter gives the trees of f, one after another, to the target tg -/
structure EvI (X : Cx) (ks : Ks) (F : Fn) (tg iter : Expr) (f : SL) : Prop where
  ex : ∃ wi : TI, PI X tg iter wi ∧ ∀ σ H (P : Addr → Prop) (ρ : RE.Env) (R : It → Hp → Prop) (ds : List D), Fre P H → ER X.mg P ks H σ ρ → f F ρ = some ds →
    (∀ J H1 src, Same H H1 → (∀ P', (∀ a, H1 a ≠ none → P a → P' a) → WalkD P' src J ds H1) → (∀ a ∈ src, Top ks σ ρ P a) → R J H1) → wi σ H R

/-- the trees one walks over -/
def chD (s : Str) : List D := s.cps.toList.map fun c => .str ⟨#[c]⟩
def walkL : D → Option (List D)
  | .lst xs => some xs
  | .tup xs => some xs
  | .str s => some (chD s)
  | .scr ns => some (ns.map .int)
  | _ => none
theorem RepL.chars {P : Addr → Prop} {H : Hp} : ∀ cs : List Nat, RepL P H (cs.map fun c => .str ⟨#[c]⟩) (cs.map fun c => V.str ⟨#[c]⟩)
  | [] => by simp only [List.map_nil, RepL]
  | c :: cs => by
    simp only [List.map_cons, RepL]
    exact ⟨_, _, rfl, by simp only [Rep], RepL.chars cs⟩
theorem RepL.ofInts {P : Addr → Prop} {H : Hp} : ∀ ns : List Int, RepL P H (ns.map .int) (ns.map V.int)
  | [] => by simp only [List.map_nil, RepL]
  | c :: cs => by
    simp only [List.map_cons, RepL]
    exact ⟨_, _, rfl, by simp only [Rep], RepL.ofInts cs⟩
/-- a list, tuple or text as a walked thing -/
theorem sk_of {mg : Str → Option Value} {ks : Ks} {σ : L2.St} {ρ : RE.Env} {P : Addr → Prop} {H : Hp} {d : D} {v : V} {ds : List D} (r : RepB mg P H d v) (tp : ∀ a, v = .ref a → (∀ g, d ≠ .fn g) → Chg (H a) → Top ks σ ρ P a) (e : walkL d = some ds) :
    ∃ k vs src, v = skV k ∧ SkAt H k vs ∧ RepL P H ds vs ∧ (∀ a ∈ src, H a ≠ none) ∧ (∀ a ∈ src, Top ks σ ρ P a) ∧ ∀ P2 H2, Kept P2 src H H2 → SkAt H2 k vs := by
  cases d <;> simp only [walkL] at e <;> cases e
  · rename_i z
    simp only [RepB] at r
    exact ⟨.s z, _, [], r, rfl, RepL.chars _, by simp, by simp, fun _ _ _ => rfl⟩
  · obtain ⟨a, vs, rfl, h1, h2⟩ := r.tup
    exact ⟨.t a, vs, [], rfl, h1, h2, by simp, by simp, fun _ H2 k => k _ _ h1 (.inr (.inl fun z => z))⟩
  · obtain ⟨a, vs, rfl, h1, h2⟩ := r.lst
    refine ⟨.l a, vs, [a], rfl, .inl h1, h2, ?_, ?_, fun _ H2 k => .inl (k _ _ h1 (.inr (.inr (by simp))))⟩
    · intro b hb; rw [List.mem_singleton.mp hb, h1]; simp
    · intro b hb; rw [List.mem_singleton.mp hb]; exact tp a rfl (fun g q => nomatch q) (by rw [h1]; trivial)
  · simp only [RepB, Rep] at r
    obtain ⟨a, o, rfl, h1⟩ := r
    exact ⟨.l a, _, [], rfl, .inr ⟨o, h1⟩, RepL.ofInts _, by simp, by simp, fun _ H2 k => .inr ⟨o, k _ _ h1 (.inr (.inl fun z => z))⟩⟩
theorem rep_at {P : Addr → Prop} {H : Hp} {ds : List D} {vs : List V} {i : Nat} {x : V} (h : RepL P H ds vs) (e : vs[i]? = some x) : ∃ d, ds[i]? = some d ∧ Rep P H d x := by
  have hi : i < ds.length := by rw [← h.len]; exact (List.getElem?_eq_some_iff.mp e).1
  obtain ⟨v, e1, r⟩ := h.get (List.getElem?_eq_getElem hi)
  rw [e] at e1; cases e1
  exact ⟨_, List.getElem?_eq_getElem hi, r⟩
section
variable {X : Cx} {ks : Ks} {F : Fn} {pos : Pos} {tg : Expr}
theorem pi_or2 {iter : Expr} {a b : TI} (h : PI X tg iter a) (g : PI X tg iter b) : PI X tg iter (fun σ H R => a σ H R ∨ b σ H R) :=
  ⟨fun pins s σ H R I q => q.elim (h.run pins s σ H R I) (g.run pins s σ H R I)⟩
def cWalk (f : SE) : SL := fun F ρ => (f F ρ).bind walkL
theorem evI_of {e : Expr} {f : SE} (h : EvQ X ks F e f) : EvI X ks F tg e (cWalk f) := by
  obtain ⟨t, p, q⟩ := h.ex
  refine ⟨_, pi_or2 (pi_list p) (pi_or2 (pi_tup p) (pi_str p)), fun σ H P ρ R ds fr er ev k => ?_⟩
  obtain ⟨d, e1, ev1⟩ := Option.bind_eq_some_iff.mp ev
  cases d with
  | lst xs =>
    refine .inl (q σ H P ρ _ _ fr er e1 fun v H1 s1 ⟨r, tp⟩ => ?_)
    simp only [walkL] at ev1; cases ev1
    obtain ⟨a, vs, rfl, h1, h2⟩ := r.lst
    refine ⟨a, rfl, ⟨vs, SqL.of h1⟩, k _ H1 [a] s1 (fun P2 hp2 => ⟨by intro b hb; rw [List.mem_singleton.mp hb, h1]; simp, fun H2 i kp hi => ?_, fun H2 kp => ?_, fun H2 i x H3 kp hi y => ?_⟩) fun b hb => ?_⟩
    · have h3 := kp _ _ h1 (.inr (.inr (by simp)))
      have : i < vs.length := by rw [h2.len]; exact hi
      exact ⟨vs, vs[i], SqL.of h3, List.getElem?_eq_getElem this⟩
    · exact ⟨vs, SqL.of (kp _ _ h1 (.inr (.inr (by simp)))), by rw [h2.len]; exact Nat.le_refl _⟩
    · obtain ⟨rfl, y2⟩ := y
      exact ⟨Same.refl _, rep_at ((RepL.mono (Same.refl _) hp2 _ _ h2).kept kp) (y2 vs (SqL.of (kp _ _ h1 (.inr (.inr (by simp))))))⟩
    · rw [List.mem_singleton.mp hb]
      exact tp a rfl (fun g z => nomatch z) (by rw [h1]; trivial)
  | scr ns =>
    refine .inl (q σ H P ρ _ _ fr er e1 fun v H1 s1 ⟨r, tp⟩ => ?_)
    simp only [walkL] at ev1; cases ev1
    simp only [RepB, Rep] at r
    obtain ⟨a, o, rfl, h1⟩ := r
    have sq : ∀ {P} H2, Kept P [] H1 H2 → SqL X.K H2 a (ns.map V.int) := fun H2 kp => .inl (.inr ⟨o, kp _ _ h1 (.inr (.inl fun z => z))⟩)
    refine ⟨a, rfl, ⟨_, sq (P := P) H1 Kept.refl⟩, k _ H1 [] s1 (fun P2 hp2 => ⟨by simp, fun H2 i kp hi => ?_, fun H2 kp => ?_, fun H2 i x H3 kp hi y => ?_⟩) (by simp)⟩
    · have : i < (ns.map V.int).length := by simpa using hi
      exact ⟨_, _, sq H2 kp, List.getElem?_eq_getElem this⟩
    · exact ⟨_, sq H2 kp, by simp⟩
    · obtain ⟨rfl, y2⟩ := y
      exact ⟨Same.refl _, rep_at (RepL.ofInts ns) (y2 _ (sq _ kp))⟩
  | tup xs =>
    refine .inr (.inl (q σ H P ρ _ _ fr er e1 fun v H1 s1 ⟨r, tp⟩ => ?_))
    simp only [walkL] at ev1; cases ev1
    obtain ⟨a, vs, rfl, h1, h2⟩ := r.tup
    have sq : ∀ {P} H2, Kept P [] H1 H2 → SqT X.K H2 a vs := fun H2 kp => SqT.of (kp _ _ h1 (.inr (.inl fun z => z)))
    refine ⟨a, rfl, ⟨vs, SqT.of h1⟩, k _ H1 [] s1 (fun P2 hp2 => ⟨by simp, fun H2 i kp hi => ?_, fun H2 kp => ?_, fun H2 i x H3 kp hi y => ?_⟩) (by simp)⟩
    · have : i < vs.length := by rw [h2.len]; exact hi
      exact ⟨vs, vs[i], sq H2 kp, List.getElem?_eq_getElem this⟩
    · exact ⟨vs, sq H2 kp, by rw [h2.len]; exact Nat.le_refl _⟩
    · obtain ⟨rfl, y2⟩ := y
      exact ⟨Same.refl _, rep_at ((RepL.mono (Same.refl _) hp2 _ _ h2).kept kp) (y2 vs (sq _ kp))⟩
  | str z =>
    refine .inr (.inr (q σ H P ρ _ _ fr er e1 fun v H1 s1 ⟨r, tp⟩ => ?_))
    simp only [walkL] at ev1; cases ev1
    simp only [RepB] at r
    have ln : (chD z).length = z.cps.size := by unfold chD; rw [List.length_map, Array.length_toList]
    refine ⟨z, r, k _ H1 [] s1 (fun P2 hp2 => ⟨by simp, fun H2 i kp hi => ?_, fun H2 kp => ?_, fun H2 i x H3 kp hi y => ?_⟩) (by simp)⟩
    · show i < z.cps.size
      omega
    · show z.cps.size ≤ _
      omega
    · obtain ⟨rfl, c, hc, rfl⟩ := y
      refine ⟨Same.refl _, .str ⟨#[c]⟩, ?_, by simp only [Rep]⟩
      unfold chD
      rw [List.getElem?_map, Array.getElem?_toList, hc]; rfl
  | _ => cases ev1
/-! ### range -/
def rngL (lo : Int) (n : Nat) : List D := (List.range n).map fun i => .int (lo + (i : Nat))
def small62 (i : Int) : Bool := decide (-(2 ^ 62) ≤ i) && decide (i < 2 ^ 62)
def rng1D : D → Option (List D)
  | .int j => if small62 j then some (rngL 0 j.toNat) else none
  | _ => none
def rng2D : D → D → Option (List D)
  | .int i, .int j => if small62 i && small62 j then some (rngL i (j - i).toNat) else none
  | _, _ => none
def cRng1 (f : SE) : SL := fun F ρ => (f F ρ).bind rng1D
def cRng2 (f g : SE) : SL := fun F ρ => (f F ρ).bind fun x => (g F ρ).bind fun y => rng2D x y
theorem walk_rng {P : Addr → Prop} {H : Hp} {lo : Int} {n : Nat} : WalkD P [] (Itr lo n) (rngL lo n) H := by
  have ln : (rngL lo n).length = n := by simp [rngL]
  refine ⟨by simp, fun H2 i kp hi => ?_, fun H2 kp => ?_, fun H2 i x H3 kp hi y => ?_⟩
  · show i < n; omega
  · show n ≤ _; omega
  · obtain ⟨rfl, rfl⟩ := y
    refine ⟨Same.refl _, .int (lo + (i : Nat)), ?_, by simp only [Rep]⟩
    have : i < n := by omega
    simp [rngL, this]
theorem small62_of {i : Int} (h : small62 i = true) : -(2 ^ 62) ≤ i ∧ i < 2 ^ 62 := by
  unfold small62 at h
  rwa [Bool.and_eq_true, decide_eq_true_eq, decide_eq_true_eq] at h
theorem evI_range1 {a : Expr} {p : Pos} {f : SE} (hg : Gl X "range") (hm : X.mg "range" = none) (hs : noStar a = true) (ha : EvP X ks F a f) : EvI X ks F tg (.Call (.Name "range" p) [a] [] pos) (cRng1 f) := by
  obtain ⟨t, pt, q⟩ := ha.ex
  refine ⟨_, pi_range1 hg hm (pa_cons pt pa_nil (starEach_cons (noStar_ne hs))) (starEach_cons (noStar_ne hs)), fun σ H P ρ R ds fr er ev k => ?_⟩
  obtain ⟨x, e1, ev1⟩ := Option.bind_eq_some_iff.mp ev
  unfold rng1D at ev1
  split at ev1
  · split at ev1
    · rename_i c
      cases ev1
      refine q σ H P ρ _ _ fr er e1 fun v H1 s1 r1 => ?_
      simp only [RepB] at r1
      subst r1
      exact ⟨_, rfl, (small62_of c).1, (small62_of c).2, k _ H1 [] s1 (fun _ _ => walk_rng) (by simp)⟩
    · cases ev1
  · cases ev1
theorem evI_range2 {a b : Expr} {p : Pos} {f g : SE} (hg : Gl X "range") (hm : X.mg "range" = none) (hs : noStar a = true) (hs2 : noStar b = true) (ha : EvP X ks F a f) (hb : EvP X ks F b g) : EvI X ks F tg (.Call (.Name "range" p) [a, b] [] pos) (cRng2 f g) := by
  obtain ⟨t, pt, q⟩ := ha.ex
  obtain ⟨t', pt', q'⟩ := hb.ex
  refine ⟨_, pi_range2 hg hm (pa_cons pt (pa_cons pt' pa_nil (starEach_cons (noStar_ne hs2))) (starEach_cons (noStar_ne hs))) (by rw [starEach_cons (noStar_ne hs), starEach_cons (noStar_ne hs2)]; rfl) (starEach_cons (noStar_ne hs2)), fun σ H P ρ R ds fr er ev k => ?_⟩
  obtain ⟨x, e1, ev1⟩ := Option.bind_eq_some_iff.mp ev
  obtain ⟨y, e2, ev2⟩ := Option.bind_eq_some_iff.mp ev1
  unfold rng2D at ev2
  split at ev2
  · split at ev2
    · rename_i c
      cases ev2
      rw [Bool.and_eq_true] at c
      refine q σ H P ρ _ _ fr er e1 fun v H1 s1 r1 => ?_
      refine q' σ H1 P ρ _ _ (fr.same s1) (er.same s1) e2 fun w H2 s2 r2 => ?_
      simp only [RepB] at r1 r2
      subst r1 r2
      exact ⟨_, _, rfl, ⟨(small62_of c.1).1, (small62_of c.1).2, (small62_of c.2).1, (small62_of c.2).2⟩, k _ H2 [] (s1.trans s2) (fun _ _ => walk_rng) (by simp)⟩
    · cases ev2
  · cases ev2

/-! ### enumerate, zip -/
def enumL : Nat → List D → List D
  | _, [] => []
  | i, d :: ds => .tup [.int (i : Nat), d] :: enumL (i + 1) ds
def zipL : List D → List D → List D
  | x :: xs, y :: ys => .tup [x, y] :: zipL xs ys
  | _, _ => []
theorem enumL_len : ∀ (i : Nat) (ds : List D), (enumL i ds).length = ds.length
  | _, [] => rfl
  | i, d :: ds => by simp only [enumL, List.length_cons, enumL_len]
theorem enumL_get : ∀ (k i : Nat) (ds : List D) (d : D), ds[i]? = some d → (enumL k ds)[i]? = some (.tup [.int ((k + i : Nat) : Int), d])
  | _, _, [], _, h => by simp at h
  | k, 0, d0 :: ds, d, h => by simp at h; subst h; rfl
  | k, i + 1, d0 :: ds, d, h => by
    have := enumL_get (k + 1) i ds d (by simpa using h)
    simp only [enumL, List.getElem?_cons_succ]
    rw [this, show k + 1 + i = k + (i + 1) by omega]
theorem zipL_len : ∀ (xs ys : List D), (zipL xs ys).length = min xs.length ys.length
  | [], _ => by simp [zipL]
  | _ :: _, [] => by simp [zipL]
  | x :: xs, y :: ys => by simp only [zipL, List.length_cons, zipL_len xs ys]; omega
theorem zipL_get : ∀ (i : Nat) (xs ys : List D) (x y : D), xs[i]? = some x → ys[i]? = some y → (zipL xs ys)[i]? = some (.tup [x, y])
  | _, [], _, _, _, h, _ => by simp at h
  | _, _ :: _, [], _, _, _, h => by simp at h
  | 0, a :: xs, b :: ys, x, y, h, g => by simp at h g; subst h g; rfl
  | i + 1, a :: xs, b :: ys, x, y, h, g => by
    simp only [zipL, List.getElem?_cons_succ]
    exact zipL_get i xs ys x y (by simpa using h) (by simpa using g)
theorem rep_pair {P : Addr → Prop} {H : Hp} {T : Addr} {d e : D} {x y : V} (n : H T = none) (h : Rep P H d x) (g : Rep P H e y) : Rep P (upd H T (.tup [x, y])) (.tup [d, e]) (.ref T) := by
  simp only [Rep, RepL]
  exact ⟨T, _, rfl, upd_same, x, [y], rfl, h.same (same_new n), y, [], rfl, g.same (same_new n), rfl⟩
def cEnum (f : SE) : SL := fun F ρ => ((f F ρ).bind walkL).map (enumL 0)
def cZip (f g : SE) : SL := fun F ρ => ((f F ρ).bind walkL).bind fun xs => ((g F ρ).bind walkL).map (zipL xs)
theorem evI_enum {elts : List Expr} {kk : Nat} {tpos : Pos} {e : Expr} {f : SE} {p : Pos} (hg : Gl X "enumerate") (hm : X.mg "enumerate" = none) (hs : noStar e = true) (h : EvQ X ks F e f) : EvI X ks F (.Tuple elts kk tpos) (.Call (.Name "enumerate" p) [e] [] pos) (cEnum f) := by
  obtain ⟨t, pt, q⟩ := h.ex
  refine ⟨_, pi_enumG hg hm (pa_cons pt pa_nil (starEach_cons (noStar_ne hs))) (starEach_cons (noStar_ne hs)), fun σ H P ρ R ds fr er ev k => ?_⟩
  obtain ⟨xs, e0, rfl⟩ := Option.map_eq_some_iff.mp ev
  obtain ⟨d, e1, e2⟩ := Option.bind_eq_some_iff.mp e0
  refine q σ H P ρ _ _ fr er e1 fun v H1 s1 ⟨r, tp⟩ => ?_
  obtain ⟨sk, vs, src, rfl, ha, hr, hth, htop, hkp⟩ := sk_of r tp e2
  refine ⟨sk, vs, rfl, ha, k _ H1 src s1 (fun P2 hp2 => ⟨hth, fun H2 i kp hi => ?_, fun H2 kp => ?_, fun H2 i x H3 kp hi y => ?_⟩) htop⟩
  · rw [enumL_len] at hi
    have : i < vs.length := by rw [hr.len]; exact hi
    exact ⟨vs, vs[i], hkp P2 H2 kp, List.getElem?_eq_getElem this⟩
  · exact ⟨vs, hkp P2 H2 kp, by rw [enumL_len, hr.len]⟩
  · obtain ⟨T, x', rfl, nT, rfl, hx⟩ := y
    obtain ⟨d', hd', rd⟩ := rep_at ((RepL.mono (Same.refl _) hp2 _ _ hr).kept kp) (hx vs (hkp P2 H2 kp))
    refine ⟨same_new nT, _, enumL_get 0 i xs d' hd', ?_⟩
    rw [Nat.zero_add]
    exact rep_pair nT (by simp only [Rep]) rd
theorem evI_zip {elts : List Expr} {kk : Nat} {tpos : Pos} {e e2 : Expr} {f g : SE} {p : Pos} (hg : Gl X "zip") (hm : X.mg "zip" = none) (hs : noStar e = true) (hs2 : noStar e2 = true) (h : EvQ X ks F e f) (h' : EvQ X ks F e2 g) : EvI X ks F (.Tuple elts kk tpos) (.Call (.Name "zip" p) [e, e2] [] pos) (cZip f g) := by
  obtain ⟨t, pt, q⟩ := h.ex
  obtain ⟨t', pt', q'⟩ := h'.ex
  refine ⟨_, pi_zipG hg hm (pa_cons pt (pa_cons pt' pa_nil (starEach_cons (noStar_ne hs2))) (starEach_cons (noStar_ne hs))) (starEach_cons (noStar_ne hs)) (by rw [starEach_cons (noStar_ne hs2)]; rfl), fun σ H P ρ R ds fr er ev k => ?_⟩
  obtain ⟨xs, e0, ev1⟩ := Option.bind_eq_some_iff.mp ev
  obtain ⟨ys, e3, rfl⟩ := Option.map_eq_some_iff.mp ev1
  obtain ⟨d, e1, e4⟩ := Option.bind_eq_some_iff.mp e0
  obtain ⟨d', e5, e6⟩ := Option.bind_eq_some_iff.mp e3
  refine q σ H P ρ _ _ fr er e1 fun v H1 s1 ⟨r, tp⟩ => ?_
  refine q' σ H1 P ρ _ _ (fr.same s1) (er.same s1) e5 fun w H2 s2 ⟨r', tp'⟩ => ?_
  have tp2 : ∀ a, v = .ref a → (∀ g, d ≠ .fn g) → Chg (H2 a) → Top ks σ ρ P a := fun a ea hn c => by
    refine tp a ea hn ?_
    cases q0 : H1 a with
    | some o => rw [s2 a o q0] at c; exact c
    | none =>
      subst ea
      cases d <;> simp only [walkL] at e4 <;> first | (cases e4; done) | skip
      · simp only [RepB] at r; cases r
      · obtain ⟨b, vs, eb, hb, _⟩ := r.tup; cases eb; rw [q0] at hb; cases hb
      · obtain ⟨b, vs, eb, hb, _⟩ := r.lst; cases eb; rw [q0] at hb; cases hb
      · simp only [RepB, Rep] at r; obtain ⟨b, o, eb, hb⟩ := r; cases eb; rw [q0] at hb; cases hb
  obtain ⟨k1, vs, src, rfl, ha, hr, hth, htop, hkp⟩ := sk_of (r.same s2) tp2 e4
  obtain ⟨k2, ws, src', rfl, ha', hr', hth', htop', hkp'⟩ := sk_of r' tp' e6
  have kl : ∀ {P H3}, Kept P (src ++ src') H2 H3 → Kept P src H2 H3 := fun kp b o eb hb => kp b o eb (hb.imp_right fun z => z.imp_right fun m => List.mem_append_left _ m)
  have kr : ∀ {P H3}, Kept P (src ++ src') H2 H3 → Kept P src' H2 H3 := fun kp b o eb hb => kp b o eb (hb.imp_right fun z => z.imp_right fun m => List.mem_append_right _ m)
  refine ⟨k1, k2, vs, ws, rfl, ha, ha', k _ H2 (src ++ src') (s1.trans s2) (fun P2 hp2 => ⟨fun a m => (List.mem_append.mp m).elim (hth a) (hth' a), fun H3 i kp hi => ?_, fun H3 kp => ?_, fun H3 i x H4 kp hi y => ?_⟩) fun a m => (List.mem_append.mp m).elim (htop a) (htop' a)⟩
  · rw [zipL_len] at hi
    have h1 : i < vs.length := by rw [hr.len]; omega
    have h2 : i < ws.length := by rw [hr'.len]; omega
    exact ⟨vs, ws, vs[i], ws[i], hkp P2 H3 (kl kp), hkp' P2 H3 (kr kp), List.getElem?_eq_getElem h1, List.getElem?_eq_getElem h2⟩
  · exact ⟨vs, ws, hkp P2 H3 (kl kp), hkp' P2 H3 (kr kp), by rw [zipL_len, hr.len, hr'.len]⟩
  · obtain ⟨T, x', y', rfl, nT, rfl, hx, hy⟩ := y
    obtain ⟨a, e7, ra⟩ := rep_at ((RepL.mono (Same.refl _) hp2 _ _ hr).kept (kl kp)) (hx vs (hkp P2 H3 (kl kp)))
    obtain ⟨b, e8, rb⟩ := rep_at ((RepL.mono (Same.refl _) hp2 _ _ hr').kept (kr kp)) (hy ws (hkp' P2 H3 (kr kp)))
    exact ⟨same_new nT, _, zipL_get i xs ys a b e7 e8, rep_pair nT ra rb⟩
end
end RE
/-! RE8: targets, list comprehensions. -/
namespace RE
open PySem PySem.Spec PyProof.Rows L2

/-! ### the canonical readings -/
def tE (mg : Str → Option Value) (ks : Ks) (F : Fn) (f : SE) : TE := fun σ H Q => ∃ (P : Addr → Prop) (ρ : RE.Env) (d : D), Fre P H ∧ ER mg P ks H σ ρ ∧ f F ρ = some d ∧ ∀ v H', Same H H' → Rep P H' d v → Q v H'
theorem EvE.can {X : Cx} {ks : Ks} {F : Fn} {e : Expr} {f : SE} (h : EvE X ks F e f) : PE X e (tE X.mg ks F f) := by
  obtain ⟨t, p, q⟩ := h.ex
  exact ⟨fun pins s σ H Q I ⟨P, ρ, d, fr, er, ev, k⟩ => p.run pins s σ H Q I (q σ H P ρ Q d fr er ev k)⟩
def tT (mg : Str → Option Value) (ks : Ks) (F : Fn) (f : SB) : TT := fun σ H Q => ∃ (P : Addr → Prop) (ρ : RE.Env) (b : Bool), Fre P H ∧ ER mg P ks H σ ρ ∧ f F ρ = some b ∧ ∀ H', Same H H' → Q b H'
theorem EvT.can {X : Cx} {ks : Ks} {F : Fn} {e : Expr} {f : SB} (h : EvT X ks F e f) : PT X e (tT X.mg ks F f) := by
  obtain ⟨t, p, q⟩ := h.ex
  exact ⟨fun pins s σ H Q I ⟨P, ρ, d, fr, er, ev, k⟩ => p.run pins s σ H Q I (q σ H P ρ Q d fr er ev k)⟩

/-! ### targets -/
abbrev SG := D → RE.Env → Option RE.Env
def tG (mg : Str → Option Value) (ks : Ks) (is : List Nat) (asg : SG) : TG := fun v σ H Q => ∃ (P : Addr → Prop) (ρ ρ' : RE.Env) (d : D), Rep P H d v ∧ ER mg P ks H σ ρ ∧ asg d ρ = some ρ' ∧
  ∀ σ', ER mg P ks H σ' ρ' → σ'.length = σ.length → (∀ j, j ∉ is → σ'[j]? = σ[j]?) → Q σ' H
/-- assigning a tree to tg is asg, on the slots is -/
structure EvG (X : Cx) (ks : Ks) (tg : Expr) (is : List Nat) (asg : SG) : Prop where
  can : PG X tg (tG X.mg ks is asg)
abbrev SGs := List D → RE.Env → Option RE.Env
def tGs (mg : Str → Option Value) (ks : Ks) (is : List Nat) (asg : SGs) : TGs := fun vs σ H Q => ∃ (P : Addr → Prop) (ρ ρ' : RE.Env) (ds : List D), RepL P H ds vs ∧ ER mg P ks H σ ρ ∧ asg ds ρ = some ρ' ∧
  ∀ σ', ER mg P ks H σ' ρ' → σ'.length = σ.length → (∀ j, j ∉ is → σ'[j]? = σ[j]?) → Q σ' H
structure EvGs (X : Cx) (ks : Ks) (tgs : List Expr) (is : List Nat) (asg : SGs) : Prop where
  can : PGs X tgs (tGs X.mg ks is asg)
theorem PG.imp {X : Cx} {tg : Expr} {t u : TG} (h : PG X tg t) (g : ∀ v σ H Q, u v σ H Q → t v σ H Q) : PG X tg u := by
  obtain ⟨r⟩ := h
  exact ⟨fun pins s σ H v u Q I rv q => r pins s σ H v u Q I rv (g v σ H Q q)⟩
def gN (i : Nat) : SG := fun d ρ => some (ρ.set i (some d))
theorem ER.set {mg : Str → Option Value} {P : Addr → Prop} {ks : Ks} {H : Hp} {σ : L2.St} {ρ : RE.Env} {i : Nat} {d : D} {v : V} (h : ER mg P ks H σ ρ) (r : RepK mg P H (kd ks i) d v) : ER mg P ks H (σ.set i (some v)) (ρ.set i (some d)) := by
  refine ⟨by rw [List.length_set, List.length_set]; exact h.1, fun j e q => ?_⟩
  by_cases hj : i = j
  · subst hj
    have hi : i < ρ.length := by
      rw [← List.length_set (i := i) (a := some d)]
      exact (List.getElem?_eq_some_iff.mp q).1
    rw [List.getElem?_set_self hi] at q
    cases q
    exact ⟨v, List.getElem?_set_self (by rw [← h.1]; exact hi), r⟩
  · rw [List.getElem?_set_ne hj] at q
    obtain ⟨w, e1, r1⟩ := h.2 j e q
    exact ⟨w, by rw [List.getElem?_set_ne hj]; exact e1, r1⟩
theorem evG_name {X : Cx} {ks : Ks} {pos : Pos} {i : Nat} {x : Str} (hN : X.N.Nodup) (hi : X.N[i]? = some x) (hx : Loc X.env.scope x) (hk : kd ks i = .F) (hf : X.fn x = true ∨ X.env.scope.names.lookup x = some .local) : EvG X ks (.Name x pos) [i] (gN i) := by
  refine ⟨PG.imp (pg_name hN hi hx hf) fun v σ H Q ⟨P, ρ, ρ', d, r, er, e, k⟩ => ?_⟩
  cases e
  exact k _ (er.set (by rw [hk]; exact r)) List.length_set fun j hj => List.getElem?_set_ne (by simpa [eq_comm] using hj)
theorem PGs.imp {X : Cx} {tg : List Expr} {t u : TGs} (h : PGs X tg t) (g : ∀ v σ H Q, u v σ H Q → t v σ H Q) : PGs X tg u := by
  obtain ⟨r⟩ := h
  exact ⟨fun pins s σ H v u Q I rv q => r pins s σ H v u Q I rv (g v σ H Q q)⟩
theorem assignEach_cons {e : Expr} {es : List Expr} {env : PySem.Env} (h : ∀ x p, e ≠ .Starred x p) : assignEach (e :: es) env = (false, assign e env) :: assignEach es env := by
  cases e <;> first | rfl | exact absurd rfl (h _ _)
theorem assignEach_all : ∀ {es : List Expr} {env : PySem.Env}, es.all noStar = true → (assignEach es env).length = es.length ∧ (assignEach es env).findIdx? (·.1) = none
  | [], _, _ => ⟨rfl, rfl⟩
  | e :: es, env, h => by
    rw [List.all_cons, Bool.and_eq_true] at h
    rw [assignEach_cons (noStar_ne h.1)]
    have ih := assignEach_all (es := es) (env := env) h.2
    exact ⟨by rw [List.length_cons, List.length_cons, ih.1], by simp [List.findIdx?_cons, ih.2]⟩
def gsNil : SGs := fun ds ρ => match ds with | [] => some ρ | _ => none
def gsCons (a : SG) (b : SGs) : SGs := fun ds ρ => match ds with | d :: r => (a d ρ).bind (b r) | [] => none
theorem evGs_nil {X : Cx} {ks : Ks} : EvGs X ks [] [] gsNil := by
  refine ⟨PGs.imp pgs_nil fun vs σ H Q ⟨P, ρ, ρ', ds, r, er, e, k⟩ => ?_⟩
  cases ds with
  | cons => cases e
  | nil =>
    cases e
    simp only [RepL] at r
    exact ⟨r, k σ er rfl fun _ _ => rfl⟩
theorem evGs_cons {X : Cx} {ks : Ks} {t : Expr} {ts : List Expr} {is js : List Nat} {a : SG} {b : SGs} (hs : noStar t = true) (h : EvG X ks t is a) (g : EvGs X ks ts js b) : EvGs X ks (t :: ts) (is ++ js) (gsCons a b) := by
  refine ⟨PGs.imp (pgs_cons h.can g.can (by rw [assignEach_cons (noStar_ne hs)]; rfl)) fun vs σ H Q ⟨P, ρ, ρ', ds, r, er, e, k⟩ => ?_⟩
  cases ds with
  | nil => cases e
  | cons d ds =>
    simp only [RepL] at r
    obtain ⟨v, rest, rfl, r1, r2⟩ := r
    obtain ⟨ρ1, e1, e2⟩ := Option.bind_eq_some_iff.mp e
    refine ⟨v, rest, rfl, P, ρ, ρ1, d, r1, er, e1, fun σ' er' hl hj => ?_⟩
    refine ⟨P, ρ1, ρ', ds, r2, er', e2, fun σ2 er2 hl2 hj2 => ?_⟩
    exact k σ2 er2 (hl2.trans hl) fun j hn => by
      rw [List.mem_append, not_or] at hn
      rw [hj2 j hn.2, hj j hn.1]
def gT (b : SGs) : SG := fun d ρ => match d with | .tup ds => b ds ρ | _ => none
/-- how many things a list of targets takes -/
structure Takes (b : SGs) (n : Nat) : Prop where
  len : ∀ ds ρ ρ', b ds ρ = some ρ' → ds.length = n
theorem takes_nil : Takes gsNil 0 := ⟨fun ds ρ ρ' e => by cases ds <;> first | rfl | cases e⟩
theorem takes_cons {a : SG} {b : SGs} {n : Nat} (h : Takes b n) : Takes (gsCons a b) (n + 1) := ⟨fun ds ρ ρ' e => by
  cases ds with
  | nil => cases e
  | cons d ds =>
    obtain ⟨ρ1, e1, e2⟩ := Option.bind_eq_some_iff.mp e
    rw [List.length_cons, h.len ds ρ1 ρ' e2]⟩
theorem evG_tup {X : Cx} {ks : Ks} {ts : List Expr} {is : List Nat} {b : SGs} {k : Nat} {pos : Pos} (hc : X.calm = true) (hs : ts.all noStar = true) (ht : Takes b ts.length) (h : EvGs X ks ts is b) : EvG X ks (.Tuple ts k pos) is (gT b) := by
  refine ⟨PG.imp (pg_tup hc h.can (assignEach_all hs).1 (assignEach_all hs).2) fun v σ H Q ⟨P, ρ, ρ', d, r, er, e, kk⟩ => ?_⟩
  cases d <;> simp only [gT] at e <;> first | (cases e; done) | skip
  simp only [Rep] at r
  obtain ⟨a, vs, rfl, h1, h2⟩ := r
  exact ⟨a, vs, rfl, SqT.of h1, by rw [h2.len]; exact ht.len _ _ _ e, P, ρ, ρ', _, h2, er, e, kk⟩

/-! ### list comprehensions -/
def tTs (mg : Str → Option Value) (ks : Ks) (F : Fn) (f : SB) : TT := tT mg ks F f
structure EvTs (X : Cx) (ks : Ks) (F : Fn) (ifs : List Expr) (f : SB) : Prop where
  can : PTs X ifs (tT X.mg ks F f)
def cTrue : SB := fun _ _ => some true
theorem PTs.imp {X : Cx} {ifs : List Expr} {t u : TT} (h : PTs X ifs t) (g : ∀ σ H Q, u σ H Q → t σ H Q) : PTs X ifs u := by
  obtain ⟨r⟩ := h
  exact ⟨fun pins s σ H Q I q => r pins s σ H Q I (g σ H Q q)⟩
theorem evTs_nil {X : Cx} {ks : Ks} {F : Fn} : EvTs X ks F [] cTrue :=
  ⟨PTs.imp pts_nil fun σ H Q ⟨P, ρ, b, fr, er, e, k⟩ => by cases e; exact k H (Same.refl H)⟩
theorem evTs_one {X : Cx} {ks : Ks} {F : Fn} {c : Expr} {f : SB} (h : EvT X ks F c f) : EvTs X ks F [c] f := ⟨pts_one h.can⟩
/-- the slots of own names unset -/
def wipeE (ρ : RE.Env) : List Nat → RE.Env
  | [] => ρ
  | v :: vs => (wipeE ρ vs).set v none
theorem wipeE_len (ρ : RE.Env) : ∀ vs : List Nat, (wipeE ρ vs).length = ρ.length
  | [] => rfl
  | v :: vs => by unfold wipeE; rw [List.length_set, wipeE_len ρ vs]
theorem wipeE_some {ρ : RE.Env} {i : Nat} {d : D} : ∀ {vs : List Nat}, (wipeE ρ vs)[i]? = some (some d) → ρ[i]? = some (some d) ∧ i ∉ vs
  | [], h => ⟨h, by simp⟩
  | v :: vs, h => by
    unfold wipeE at h
    by_cases hi : v = i
    · subst hi
      by_cases hv : v < (wipeE ρ vs).length
      · rw [List.getElem?_set_self hv] at h; cases h
      · rw [List.getElem?_eq_none (by simpa using hv)] at h; cases h
    · rw [List.getElem?_set_ne hi] at h
      obtain ⟨h1, h2⟩ := wipeE_some h
      refine ⟨h1, ?_⟩
      rw [List.mem_cons, not_or]
      exact ⟨fun e => hi e.symm, h2⟩
theorem ER.wipe {mg : Str → Option Value} {P : Addr → Prop} {ks ks' : Ks} {H : Hp} {σ : L2.St} {ρ : RE.Env} {vs : List Nat} (h : ER mg P ks H σ ρ) (hk : ∀ i, i ∉ vs → kd ks' i = kd ks i) : ER mg P ks' H (L2.wipe σ vs) (wipeE ρ vs) := by
  refine ⟨by rw [wipeE_len, wipe_length]; exact h.1, fun i d e => ?_⟩
  obtain ⟨e1, ni⟩ := wipeE_some e
  obtain ⟨v, e2, r⟩ := h.2 i d e1
  exact ⟨v, by rw [wipe_out ni]; exact e2, by rw [hk i ni]; exact r⟩
theorem wipe_eq {σ σ' : L2.St} {is vs : List Nat} (hl : σ'.length = (L2.wipe σ vs).length) (hj : ∀ j, j ∉ is → σ'[j]? = (L2.wipe σ vs)[j]?) (his : ∀ j ∈ is, j ∈ vs) : L2.wipe σ' vs = L2.wipe σ vs := by
  have wn : ∀ (τ : L2.St) (ws : List Nat) (i : Nat), i ∈ ws → i < τ.length → (L2.wipe τ ws)[i]? = some none := by
    intro τ ws
    induction ws with
    | nil => intro i h; cases h
    | cons w ws ih =>
      intro i h hi
      unfold L2.wipe
      by_cases e : w = i
      · subst e
        exact List.getElem?_set_self (by rw [wipe_length]; exact hi)
      · rw [List.getElem?_set_ne e]
        exact ih i ((List.mem_cons.mp h).resolve_left fun q => e q.symm) hi
  apply List.ext_getElem?
  intro i
  by_cases hi : i ∈ vs
  · by_cases hs : i < σ.length
    · rw [wn σ vs i hi hs, wn σ' vs i hi (by rw [hl, wipe_length]; exact hs)]
    · rw [List.getElem?_eq_none (by rw [wipe_length, hl, wipe_length]; omega), List.getElem?_eq_none (by rw [wipe_length]; omega)]
  · rw [wipe_out hi, hj i fun q => hi (his i q)]
/-- one item's part of a comprehension -/
def lcOne (asg : SG) (t : SB) (e : SE) (F : Fn) (ρ : RE.Env) (d : D) : Option (List D) := (asg d ρ).bind fun ρ' => (t F ρ').bind fun b => if b then (e F ρ').map fun y => [y] else some []
def lcAll (one : D → Option (List D)) : List D → Option (List D)
  | [] => some []
  | d :: ds => (one d).bind fun ys => (lcAll one ds).map (ys ++ ·)
theorem lcAll_snoc (one : D → Option (List D)) (d : D) : ∀ xs : List D, lcAll one (xs ++ [d]) = (lcAll one xs).bind fun a => (one d).map (a ++ ·)
  | [] => by simp [lcAll]
  | x :: xs => by
    simp only [List.cons_append, lcAll, lcAll_snoc one d xs]
    cases one x with
    | none => rfl
    | some ys =>
      simp only [Option.bind_some]
      cases lcAll one xs with
      | none => rfl
      | some a =>
        simp only [Option.bind_some, Option.map_some]
        cases one d <;> simp
theorem lcAll_app (one : D → Option (List D)) (ys : List D) : ∀ xs : List D, lcAll one (xs ++ ys) = (lcAll one xs).bind fun a => (lcAll one ys).map (a ++ ·)
  | [] => by simp [lcAll]
  | x :: xs => by
    simp only [List.cons_append, lcAll, lcAll_app one ys xs]
    cases one x with
    | none => rfl
    | some zs =>
      simp only [Option.bind_some]
      cases lcAll one xs with
      | none => rfl
      | some a =>
        simp only [Option.bind_some, Option.map_some]
        cases lcAll one ys <;> simp
/-- the start of a whole -/
theorem lcAll_take {one : D → Option (List D)} {ds outs : List D} (h : lcAll one ds = some outs) (i : Nat) : ∃ pre post, lcAll one (ds.take i) = some pre ∧ outs = pre ++ post := by
  rw [← List.take_append_drop i ds, lcAll_app] at h
  obtain ⟨a, e1, e2⟩ := Option.bind_eq_some_iff.mp h
  obtain ⟨b, e3, rfl⟩ := Option.map_eq_some_iff.mp e2
  exact ⟨a, b, e1, rfl⟩
def cLc (own : List Nat) (fi : SL) (asg : SG) (t : SB) (e : SE) : SE := fun F ρ => (fi F ρ).bind fun ds => (lcAll (lcOne asg t e F (wipeE ρ own)) ds).bind mkLst
def plainIter : Expr → Bool
  | .List _ _ => false
  | .Set _ _ _ => false
  | _ => true
theorem upd_fun {H : Hp} {a : Addr} {o : HO} {b : Addr} {u : HO} (e : upd H a o b = some u) : (b = a ∧ u = o) ∨ (b ≠ a ∧ H b = some u) := by
  by_cases h : b = a
  · subst h; rw [upd_same] at e; cases e; exact .inl ⟨rfl, rfl⟩
  · rw [upd_ne h] at e; exact .inr ⟨h, e⟩
theorem fre_minus {P : Addr → Prop} {H : Hp} {D : Addr} (fr : Fre P H) (hD : H D ≠ none) : Fre (fun b => P b ∧ b ≠ D) H := fun a ha => ⟨fr a ha, fun e => hD (e ▸ ha)⟩
/-- as EvN; assigned to a name on one line too -/
structure EvNS (X : Cx) (ks : Ks) (F : Fn) (e : Expr) (f : SE) : Prop where
  ex : ∃ t : TE, (PE X e t ∧ ∀ (i : Nat) (y : Str) (py spos : Pos), X.N[i]? = some y → X.env.scope.names.lookup y = some .local → swapsWith e (some (.Name y py)) spos.line X.env = pure true → PS X (.Assign [.Name y py] e spos) (tAsg t (gName i))) ∧
    ∀ σ H, Cn X.mg H ks F f σ (fun P d v H' => Rep P H' d v ∧ TopNew H d v) t
theorem EvNS.toN {X : Cx} {ks : Ks} {F : Fn} {e : Expr} {f : SE} (h : EvNS X ks F e f) : EvN X ks F e f := let ⟨t, p, q⟩ := h.ex; ⟨t, p.1, q⟩
theorem evNS_lc {X : Cx} {ks ks' : Ks} {F : Fn} {elt tg iter : Expr} {ifs : List Expr} {scope : Scope} {own : List (Str × Nat)} {pos : Pos} {fi : SL} {is : List Nat} {asg : SG} {ft : SB} {fe : SE} (hc : X.calm = true) (hN : X.N.Nodup)
    (hi : EvI X ks F tg iter fi) (ok : BlkOk X.N X.env.scope scope own) (his : ∀ j ∈ is, j ∈ own.map (·.2)) (hk : ∀ i, i ∉ own.map (·.2) → kd ks' i = kd ks i)
    (hg : ∀ (s : Shared) (H : Hp) (C : Addr) (cl : List (Str × Addr)) (fp : List Addr), EvG (X.blk s H scope (compEnvC scope cl C X.env) fp) ks' tg is asg)
    (ht : ∀ (s : Shared) (H : Hp) (C : Addr) (cl : List (Str × Addr)) (fp : List Addr), EvTs (X.blk s H scope (compEnvC scope cl C X.env) fp) ks' F ifs ft)
    (he : ∀ (s : Shared) (H : Hp) (C : Addr) (cl : List (Str × Addr)) (fp : List Addr), EvE (X.blk s H scope (compEnvC scope cl C X.env) fp) ks' F elt fe)
    (hs : ∀ x, foldedSetIterable iter X.env x = pure x) : EvNS X ks F (.ListComp elt [⟨tg, iter, ifs, 0⟩] scope pos) (cLc (own.map (·.2)) fi asg ft fe) := by
  obtain ⟨wi, pi, q⟩ := hi.ex
  refine ⟨_, ⟨pe_lc (g := tG X.mg ks' is asg) (tt := tT X.mg ks' F ft) (te := tE X.mg ks' F fe) hc hN pi ok (fun s H C cl fp => (hg s H C cl fp).can) (fun s H C cl fp => (ht s H C cl fp).can) (fun s H C cl fp => (he s H C cl fp).can) hs,
    fun i y py spos hy hyl hsw => ps_setLc (g := tG X.mg ks' is asg) (tt := tT X.mg ks' F ft) (te := tE X.mg ks' F fe) hc hN hy hyl hsw pi ok (fun s H C cl fp => (hg s H C cl fp).can) (fun s H C cl fp => (ht s H C cl fp).can) (fun s H C cl fp => (he s H C cl fp).can) hs⟩, fun σ H P ρ Q d fr er ev k => ?_⟩
  obtain ⟨ds, e1, ev1⟩ := Option.bind_eq_some_iff.mp ev
  obtain ⟨outs, e2, ev2⟩ := Option.bind_eq_some_iff.mp ev1
  obtain ⟨rfl, hlen⟩ := mkLst_some ev2
  refine q σ H P ρ _ ds fr er e1 fun J H1 src s1 wk top Dl hD => ?_
  have fr1 := fr.same s1
  have er1 := er.same s1
  have wk := wk (fun b => P b ∧ b ≠ Dl) fun a ha pa => ⟨pa, fun e => ha (e ▸ hD)⟩
  have kept : ∀ H2, (∀ b o, H1 b = some o → H2 b = some o) → Kept (fun b => P b ∧ b ≠ Dl) src H1 H2 := fun H2 h b o e _ => h b o e
  refine lc_it (n := ds.length) (G := fun H2 => Kept (fun b => P b ∧ b ≠ Dl) src H1 H2) (Y := fun i H2 x H3 => Same H2 H3 ∧ ∃ d, ds[i]? = some d ∧ Rep (fun b => P b ∧ b ≠ Dl) H3 d x) ⟨fun i H2 hi g => wk.goes H2 i g hi, fun H2 g => wk.stops H2 g, fun i H2 x H3 hi g y => wk.yields H2 i x H3 g hi y⟩
    (fun i H2 => ∃ vs pre, lcAll (lcOne asg ft fe F (wipeE ρ (own.map (·.2)))) (ds.take i) = some pre ∧ H2 Dl = some (.lst vs) ∧ RepL (fun b => P b ∧ b ≠ Dl) H2 pre vs ∧ ∀ b o, H1 b = some o → H2 b = some o) ?_ ?_ ?_ ?_
  · refine ⟨[], [], by simp [lcAll], upd_same, by simp [RepL], fun b o e => ?_⟩
    rw [upd_ne (ne_of_none e hD)]; exact e
  · rintro i H2 _ ⟨vs, pre, _, _, _, h⟩
    exact kept H2 h
  · rintro i x H2 H3 hi ⟨vs, pre, hpre, hDl, hr, hkp⟩ ⟨s3, d, hd, rd⟩
    have e3 : ds.take (i + 1) = ds.take i ++ [d] := by rw [List.take_add_one, hd]; rfl
    obtain ⟨pre', post, e4, e5⟩ := lcAll_take e2 (i + 1)
    have e4' := e4
    rw [e3, lcAll_snoc, hpre] at e4
    simp only [Option.bind_some] at e4
    obtain ⟨ys, e6, rfl⟩ := Option.map_eq_some_iff.mp e4
    obtain ⟨ρ', e7, e8⟩ := Option.bind_eq_some_iff.mp e6
    obtain ⟨b, e9, e10⟩ := Option.bind_eq_some_iff.mp e8
    have hD3 : H3 Dl = some (.lst vs) := s3 _ _ hDl
    have all3 : ∀ b o, H1 b = some o → H3 b = some o := fun b o e => s3 b o (hkp b o e)
    have sm : Same H1 H3 := all3
    have fr3 : Fre (fun b => P b ∧ b ≠ Dl) H3 := fre_minus (fr1.same sm) (by rw [hD3]; simp)
    have er3 : ER X.mg (fun b => P b ∧ b ≠ Dl) ks' H3 (L2.wipe σ (own.map (·.2))) (wipeE ρ (own.map (·.2))) := ER.wipe (er1.mono sm fun a ha pa => ⟨pa, fun e => ha (e ▸ hD)⟩) hk
    refine ⟨_, _, _, d, rd, er3, e7, fun σ' er' hl hj => ⟨wipe_eq hl hj his, ?_⟩⟩
    refine ⟨_, ρ', b, fr3, er', e9, fun H4 s4 => ?_⟩
    have all4 : ∀ b o, H1 b = some o → H4 b = some o := fun b o e => s4 b o (all3 b o e)
    cases b with
    | false =>
      rw [if_neg Bool.false_ne_true] at e10
      refine iteF ?_
      cases e10
      exact ⟨vs, pre ++ [], e4', s4 _ _ hD3, by rw [List.append_nil]; exact (hr.same s3).same s4, all4⟩
    | true =>
      rw [if_pos rfl] at e10
      refine iteT ?_
      obtain ⟨y, e11, rfl⟩ := Option.map_eq_some_iff.mp e10
      refine ⟨_, ρ', y, fr3.same s4, er'.same s4, e11, fun v H5 s5 r5 => ?_⟩
      have hD5 : H5 Dl = some (.lst vs) := s5 _ _ (s4 _ _ hD3)
      have rl := ((hr.same s3).same s4).same s5
      refine ⟨vs, hD5, ?_, vs ++ [v], pre ++ [y], e4', upd_same, ?_, fun b o e => ?_⟩
      · rw [rl.len]
        have : outs.length = (pre ++ [y]).length + post.length := by rw [e5, List.length_append]
        rw [List.length_append, List.length_singleton] at this
        omega
      · have r6 : RepL (fun b => P b ∧ b ≠ Dl) H5 (pre ++ [y]) (vs ++ [v]) := rl.app (by simp only [RepL]; exact ⟨v, [], rfl, r5, rfl⟩)
        exact RepL.chg (by rw [hD5]; trivial) (fun z => z.2 rfl) _ _ r6
      · rw [upd_ne (ne_of_none e hD)]
        exact s5 b o (all4 b o e)
  · rintro H2 ⟨vs, pre, hpre, hDl, hr, hkp⟩
    rw [List.take_length, e2] at hpre
    cases hpre
    refine k _ H2 (s1.trans hkp) ⟨?_, ?_⟩
    · simp only [Rep]
      exact ⟨Dl, vs, rfl, fr1 Dl hD, hDl, hr.weak fun a z => z.1⟩
    · exact topNew_ref (s1.free hD)
end RE
/-! RE8b: x[::-1]. -/
namespace HT
open PySem PyProof.Rows
section
variable {prog : Program} {w : World} {A : Around} {E : Value → Shared → Prop} {s : Shared}
theorem sliceApplied_rev {sl : Addr} {i : Tok} {n : Nat} {Q : Int × Int × Nat → Shared → Prop} (hs : s.heap.IsSliceOf sl .none .none (.int (-1) i))
    (h : Q ((n : Int) - 1, -1, n) s) : wpAny (model prog w) A (Builtin.Slice.sliceApplied (.ref sl) (pure (n : Int))) Q E s := by
  obtain ⟨os, hos, hcs, hds⟩ := id hs
  unfold Builtin.Slice.sliceApplied Builtin.Slice.sliceFields
  refine wpAny_bind (wpAny_bind (wpAny_field hos hds (x := .none) rfl (wpAny_bind (wpAny_field hos hds (x := .none) rfl (wpAny_bind (wpAny_field hos hds (x := .int (-1) i) rfl (wpAny_pure ?_)))))))
  refine wpAny_bind (slicePart_int ?_)
  show wpAny _ _ (if ((-1 : Int) == 0) = true then _ else _) _ _ s
  rw [if_neg (by decide)]
  refine wpAny_bind (slicePart_none (wpAny_bind (slicePart_none (wpAny_bind (wpAny_pure ?_)))))
  show wpAny _ _ (pure ((n : Int) - 1, (-1 : Int), Builtin.Slice.slicePlaces ((n : Int) - 1) (-1) (-1))) _ _ s
  have e : Builtin.Slice.slicePlaces ((n : Int) - 1) (-1) (-1) = n := by
    unfold Builtin.Slice.slicePlaces
    rw [if_neg (by omega)]
    by_cases hn : n = 0
    · subst hn; rfl
    · rw [if_pos (by omega)]
      have : ((n : Int) - 1 - -1 - 1) / (- (-1)) + 1 = n := by
        have : (- (-1 : Int)) = 1 := by omega
        rw [this, Int.ediv_one]; omega
      rw [this]; omega
  rw [e]
  exact wpAny_pure h
theorem fm_congr {α β : Type} {f g : α → Option β} : ∀ {l : List α}, (∀ m ∈ l, f m = g m) → l.filterMap f = l.filterMap g
  | [], _ => rfl
  | a :: l, h => by
    rw [List.filterMap_cons, List.filterMap_cons, h a List.mem_cons_self, fm_congr (l := l) fun m hm => h m (List.mem_cons_of_mem _ hm)]
theorem fm_all {α : Type} (l : List α) : (List.range l.length).filterMap (fun m => l[m]?) = l := by
  have : ∀ n, n ≤ l.length → (List.range n).filterMap (fun m => l[m]?) = l.take n := by
    intro n
    induction n with
    | zero => intro _; rfl
    | succ n ih =>
      intro h
      rw [List.range_succ, List.filterMap_append, ih (by omega), List.take_add_one]
      congr 1
  rw [this l.length (Nat.le_refl _), List.take_length]
theorem pick_rev (xs : Array Value) : ((List.range xs.size).filterMap fun (m : Nat) => xs[((xs.size : Int) - 1 + (m : Int) * (-1)).toNat]?).toArray = xs.toList.reverse.toArray := by
  congr 1
  have key : ∀ m ∈ List.range xs.size, xs[((xs.size : Int) - 1 + (m : Int) * (-1)).toNat]? = xs.toList.reverse[m]? := by
    intro m hm
    rw [List.mem_range] at hm
    have : ((xs.size : Int) - 1 + (m : Int) * (-1)).toNat = xs.size - 1 - m := by omega
    rw [this, List.getElem?_reverse (by simpa using hm), Array.length_toList, ← Array.getElem?_toList]
  have h3 := fm_all xs.toList.reverse
  rw [List.length_reverse, Array.length_toList] at h3
  exact (fm_congr key).trans h3
theorem getItem_tuple_rev {t sl : Addr} {items : Array Value} {i : Tok} {Q : Value → Shared → Prop} (ht : IsTup s.heap t items) (hs : s.heap.IsSliceOf sl .none .none (.int (-1) i))
    (h : Q (.ref s.heap.objs.size) { s with heap := s.heap.push { cls := .type "tuple", data := .seq items.toList.reverse.toArray } })
    (hsz : items.size ≤ sizeLine) : wpAny (model prog w) A (getItem (.ref t) (.ref sl)) Q E s := by
  have htake : sizeOk (.seq items.toList.reverse.toArray) := by
    show items.toList.reverse.toArray.size ≤ sizeLine
    simpa using hsz
  obtain ⟨os, hos, hcs, hds⟩ := id hs
  have hTs : s.TypeIs (.ref sl) "slice" := ⟨os, hos, hcs⟩
  unfold getItem
  try with_reducible refine wpAny_holding ?_
  first | refine wpAny_bind (wpAny_pure ?_) | skip
  refine wpAny_bind (wpAny_sequenceKey ht.typeIs (by decide) ?_)
  refine wpAny_bind (wpAny_callSpecial?_slot (name := Str.ofString "__getitem__") ht.typeIs PyProof.Rows.slot_tuple_getitem
    (wpAny_call_entry PyProof.Rows.slot_tuple_getitem ht.typeIs entry_tuple_getitem ?_ (args_tuple_getitem _ _)))
  show wpAny _ _ (Builtin.Tuple.tupleItemsOf (.ref t) >>= _) _ _ s
  refine wpAny_bind (tupleItemsOf_ ht ?_)
  refine wpAny_bind (wpAny_typeOf hTs ?_)
  rw [if_pos (by decide)]
  refine wpAny_bind (sliceApplied_rev hs ?_)
  show wpAny _ _ (if (((items.size : Int) - 1) == 0 && (-1 : Int) == 1 && items.size == items.size) = true then _ else _) _ _ s
  have hno : ¬ ((((items.size : Int) - 1) == 0 && (-1 : Int) == 1 && items.size == items.size) = true) := by
    simp
  rw [if_neg hno, pick_rev]
  first
    | exact wpAny_bind (m := Builtin.Tuple.tupleExact _) (wpAny_newObj_type (wpAny_pure ⟨_, rfl, wpAny_pure h⟩) htake)
    | exact wpAny_bind (m := Builtin.Tuple.tupleExact _) (wpAny_newObj_type (wpAny_bind (wpAny_pure (wpAny_pure ⟨_, rfl, wpAny_pure h⟩))) htake)
    | exact wpAny_bind (wpAny_bind (m := Builtin.Tuple.tupleExact _) (wpAny_newObj_type (wpAny_pure (wpAny_pure ⟨_, rfl, wpAny_pure h⟩)) htake))
    | exact wpAny_bind (wpAny_bind (m := Builtin.Tuple.tupleExact _) (wpAny_newObj_type (wpAny_pure ⟨_, rfl, wpAny_pure h⟩) htake))
end
end HT
namespace RE
open PySem PySem.Spec PyProof.Rows L2
def tRevT (K : PySem.W.Frag) (te : TE) : TE := fun σ H Q => te σ H fun x H1 => ∃ a xs, x = .ref a ∧ SqT K H1 a xs ∧ ∀ p, H1 p = none → Q (.ref p) (upd H1 p (.tup xs.reverse))
theorem pe_revT {X : Cx} {e : Expr} {te : TE} {k : Nat} {p1 p2 p3 pos : Pos} (he : PE X e te) : PE X (.Subscript e (.Slice none none (some (.UnaryOp .USub (.Constant (.int 1) k p1) p2)) p3) pos) (tRevT X.K te) := by
  refine ⟨fun pins s σ H Q I h => ?_⟩
  refine Subscript_ (thn (he.run pins s σ H _ I h) fun v s1 ⟨x, H1, I1, r1, q1⟩ => ?_)
  obtain ⟨a, xs, ex, hx, q⟩ := q1
  subst ex
  cases r1
  have hst : PO X (some (.UnaryOp .USub (.Constant (.int 1) k p1) p2)) (tPart (tUn (rU fun i => .int (-i)) (tC (.int 1)))) := po_some (pe_un un_neg pe_int)
  refine wpAny_Slice (thn (po_none.run pins s1 σ H1 (fun o H2 => o = none ∧ H2 = H1) I1 ⟨rfl, rfl⟩) fun vl s2 ⟨l, H2, I2, pl, el, e2⟩ => ?_)
  subst el e2
  refine thn (po_none.run pins s2 σ H2 (fun o H3 => o = none ∧ H3 = H2) I2 ⟨rfl, rfl⟩) fun vu s3 ⟨u, H3, I3, pu, eu, e3⟩ => ?_
  subst eu e3
  refine thn (hst.run pins s3 σ H3 (fun o H4 => o = some (-1) ∧ H4 = H3) I3 ⟨1, rfl, -1, rfl, rfl, rfl⟩) fun vs s4 ⟨o, H4, I4, ps, eo, e4⟩ => ?_
  subst eo e4
  cases pl
  cases pu
  cases ps with
  | int _ tk =>
    have I5 : Inv X pins σ H4 { s4 with heap := s4.heap.push { cls := .type "slice", data := .fields #[.none, .none, .int (-1) tk] } } := I4.kept (t' := s4.toks) fun b ob q => Heap.get?_push_of_some _ q
    obtain ⟨its, r, ht, hz⟩ := I5.tuple hx
    have hlen := r.length
    show wpAny (model X.prog X.w) X.A (subscriptTail e (.Slice none none (some (.UnaryOp .USub (.Constant (.int 1) k p1) p2)) p3) (.ref a) (.ref s4.heap.objs.size)) (EP X pins σ Q) X.xe { s4 with heap := s4.heap.push { cls := .type "slice", data := .fields #[.none, .none, .int (-1) tk] } }
    refine tail_any (ops := [.ref a, .ref s4.heap.objs.size]) ht.typeIs (PyProof.Rows.slot_tuple_getitem.lookup) ?_ (by with_unfolding_all rfl)
    refine HT.getItem_tuple_rev ht (Heap.IsSliceOf.new _ .none .none (.int (-1) tk)) ?_ (by rw [List.size_toArray]; omega)
    refine ⟨.ref _, _, I5.laid (t' := s4.toks) (o := .tup xs.reverse) (fun b ob q => Heap.get?_push_of_some _ q) (Nat.le_refl _) ?_, rfl, q _ (I5.hok.fresh (Nat.le_refl _))⟩
    exact ⟨by rw [List.length_reverse]; exact hz, _, r.reverse, IsTup.new _ _⟩
theorem pick_all {α : Type} : ∀ m : List α, (List.range m.length).filterMap (fun k => m[k]?) = m
  | [] => rfl
  | x :: m => by
    rw [List.length_cons, List.range_succ_eq_map, List.filterMap_cons, List.filterMap_map]
    show x :: (List.range m.length).filterMap (fun k => m[k]?) = _
    rw [pick_all m]
theorem pick_back {α : Type} (l : List α) : (List.range l.length).filterMap (fun k => l[l.length - 1 - k]?) = l.reverse := by
  have h : ∀ k ∈ List.range l.length, l[l.length - 1 - k]? = l.reverse[k]? := fun k hk => (List.getElem?_reverse (List.mem_range.mp hk)).symm
  rw [HT.fm_congr h]
  have := pick_all l.reverse
  rw [List.length_reverse] at this
  exact this
def revS (z : Str) : Str := ⟨z.cps.toList.reverse.toArray⟩
theorem idx_back (n : Nat) : Builtin.Str.strSliceIndices none none (-1) n = (List.range n).map fun k => n - 1 - k := by
  show sliceRange (if ((-1 : Int) > 0) then 0 else (n : Int) - 1) (if ((-1 : Int) > 0) then (n : Int) else -1) (-1) = _
  rw [if_neg (by omega), if_neg (by omega)]
  unfold sliceRange
  rw [if_neg (by omega)]
  by_cases h : (n : Int) - 1 > -1
  · simp only [if_pos h]
    have e : (((n : Int) - 1 - -1 - -1 - 1) / (- -1)).toNat = n := by
      have : (- -1 : Int) = 1 := rfl
      rw [this, Int.ediv_one]
      omega
    rw [e]
    refine List.map_congr_left fun k hk => ?_
    have := List.mem_range.mp hk
    omega
  · have : n = 0 := by omega
    subst this
    simp only [if_neg h]
    rfl
theorem text_back (z : Str) : (⟨((Builtin.Str.strSliceIndices none none (-1) z.length).filterMap (z.cps[·]?)).toArray⟩ : Str) = revS z := by
  rw [idx_back, List.filterMap_map]
  unfold revS
  rw [← pick_back z.cps.toList]
  congr 2
  have e : z.cps.toList.length = z.length := Array.length_toList
  rw [e]
  refine HT.fm_congr fun k _ => ?_
  show z.cps[z.length - 1 - k]? = z.cps.toList[z.length - 1 - k]?
  rw [Array.getElem?_toList]
def tRevS (te : TE) : TE := fun σ H Q => te σ H fun x H1 => ∃ z, x = .str z ∧ z.length ≤ sizeLine ∧ Q (.str (revS z)) H1
theorem pe_revS {X : Cx} {e : Expr} {te : TE} {k : Nat} {p1 p2 p3 pos : Pos} (he : PE X e te) : PE X (.Subscript e (.Slice none none (some (.UnaryOp .USub (.Constant (.int 1) k p1) p2)) p3) pos) (tRevS te) := by
  refine ⟨fun pins s σ H Q I h => ?_⟩
  refine Subscript_ (thn (he.run pins s σ H _ I h) fun v s1 ⟨x, H1, I1, r1, q1⟩ => ?_)
  obtain ⟨z, ex, hz, q⟩ := q1
  subst ex
  obtain ⟨t, rfl⟩ := (show ∃ t, v = .str z t from r1)
  have hst : PO X (some (.UnaryOp .USub (.Constant (.int 1) k p1) p2)) (tPart (tUn (rU fun i => .int (-i)) (tC (.int 1)))) := po_some (pe_un un_neg pe_int)
  refine wpAny_Slice (thn (po_none.run pins s1 σ H1 (fun o H2 => o = none ∧ H2 = H1) I1 ⟨rfl, rfl⟩) fun vl s2 ⟨l, H2, I2, pl, el, e2⟩ => ?_)
  subst el e2
  refine thn (po_none.run pins s2 σ H2 (fun o H3 => o = none ∧ H3 = H2) I2 ⟨rfl, rfl⟩) fun vu s3 ⟨u, H3, I3, pu, eu, e3⟩ => ?_
  subst eu e3
  refine thn (hst.run pins s3 σ H3 (fun o H4 => o = some (-1) ∧ H4 = H3) I3 ⟨1, rfl, -1, rfl, rfl, rfl⟩) fun vs s4 ⟨o, H4, I4, ps, eo, e4⟩ => ?_
  subst eo e4
  cases pl
  cases pu
  cases ps with
  | int _ tk =>
    have I5 : Inv X pins σ H4 { s4 with heap := s4.heap.push { cls := .type "slice", data := .fields #[.none, .none, .int (-1) tk] } } := I4.kept (t' := s4.toks) fun b ob q => Heap.get?_push_of_some _ q
    show wpAny (model X.prog X.w) X.A (subscriptTail e (.Slice none none (some (.UnaryOp .USub (.Constant (.int 1) k p1) p2)) p3) (.str z t) (.ref s4.heap.objs.size)) (EP X pins σ Q) X.xe { s4 with heap := s4.heap.push { cls := .type "slice", data := .fields #[.none, .none, .int (-1) tk] } }
    refine tail_any (ops := [.str z t, .ref s4.heap.objs.size]) (typeIs_str _ z t) (F.slot_str_getitem.lookup) ?_ (by with_unfolding_all rfl)
    refine wpAny_getItem_str_slice (l := none) (u := none) (st := some (-1, tk)) ⟨_, Heap.get?_push_size _ rfl, rfl, rfl⟩ rfl ?_
    have hl : (revS z).length ≤ sizeLine := by
      show (z.cps.toList.reverse.toArray).size ≤ sizeLine
      rw [List.size_toArray, List.length_reverse, Array.length_toList]
      exact hz
    show Made.post (if ((-1 : Int) == 1 && (Builtin.Str.strSliceIndices none none (-1) z.length).length == z.length) = true then Made.val (.str z t)
      else Made.str ⟨((Builtin.Str.strSliceIndices none none (-1) z.length).filterMap (z.cps[·]?)).toArray⟩) (EP X pins σ Q) _
    rw [if_neg (by simp), text_back]
    exact ⟨hl, .str _, H4, I5.tok _, ⟨_, rfl⟩, q⟩
/-- the other way round -/
def revD : D → Option D
  | .lst xs => some (.lst xs.reverse)
  | .tup xs => some (.tup xs.reverse)
  | .str z => if fits z.length then some (.str (revS z)) else none
  | .scr ns => some (.lst (ns.reverse.map .int))
  | _ => none
theorem RepL.rev {P : Addr → Prop} {H : Hp} : ∀ {ds : List D} {vs : List V}, RepL P H ds vs → RepL P H ds.reverse vs.reverse
  | [], vs, h => by simp only [RepL] at h; subst h; simp [RepL]
  | d :: ds, vs, h => by
    simp only [RepL] at h
    obtain ⟨v, r, rfl, h1, h2⟩ := h
    rw [List.reverse_cons, List.reverse_cons]
    exact h2.rev.app (by simp only [RepL]; exact ⟨v, [], rfl, h1, rfl⟩)
theorem evN_rev {X : Cx} {ks : Ks} {F : Fn} {e : Expr} {f : SE} {k : Nat} {p1 p2 p3 pos : Pos} (h : EvP X ks F e f) : EvN X ks F (.Subscript e (.Slice none none (some (.UnaryOp .USub (.Constant (.int 1) k p1) p2)) p3) pos) (cU revD f) := by
  obtain ⟨t, p, q⟩ := h.ex
  refine ⟨_, pe_or2 (pe_revL p) (pe_or2 (pe_revT p) (pe_revS p)), fun σ H P ρ Q d fr er ev kk => ?_⟩
  obtain ⟨x, e1, e2⟩ := Option.bind_eq_some_iff.mp ev
  cases x with
  | str z =>
    simp only [revD] at e2
    split at e2
    · rename_i c
      cases e2
      refine .inr (.inr (q σ H P ρ _ _ fr er e1 fun v H1 s1 r1 => ?_))
      simp only [RepB] at r1
      exact ⟨z, r1, of_decide_eq_true c, kk _ _ s1 ⟨by simp only [Rep], trivial⟩⟩
    · cases e2
  | tup xs =>
    cases e2
    refine .inr (.inl (q σ H P ρ _ _ fr er e1 fun v H1 s1 r1 => ?_))
    obtain ⟨a, vs, rfl, h1, h2⟩ := r1.tup
    refine ⟨a, vs, rfl, SqT.of h1, fun p hp => kk _ _ (s1.trans (same_new hp)) ⟨?_, trivial⟩⟩
    simp only [Rep]
    exact ⟨p, _, rfl, upd_same, (h2.same (same_new hp)).rev⟩
  | lst xs =>
    cases e2
    refine .inl (q σ H P ρ _ _ fr er e1 fun v H1 s1 r1 => ?_)
    obtain ⟨a, vs, rfl, h1, h2⟩ := r1.lst
    refine ⟨a, vs, rfl, SqL.of h1, fun p hp => kk _ _ (s1.trans (same_new hp)) ⟨?_, topNew_ref (s1.free hp)⟩⟩
    simp only [Rep]
    exact ⟨p, _, rfl, (fr.same s1) p hp, upd_same, (h2.same (same_new hp)).rev⟩
  | scr ns =>
    cases e2
    refine .inl (q σ H P ρ _ _ fr er e1 fun v H1 s1 r1 => ?_)
    simp only [RepB, Rep] at r1
    obtain ⟨a, o, rfl, h1⟩ := r1
    refine ⟨a, _, rfl, .inl (.inr ⟨o, h1⟩), fun p hp => kk _ _ (s1.trans (same_new hp)) ⟨?_, topNew_ref (s1.free hp)⟩⟩
    simp only [Rep]
    refine ⟨p, _, rfl, (fr.same s1) p hp, upd_same, ?_⟩
    rw [← List.map_reverse]
    exact RepL.ofInts _
  | _ => cases e2
end RE
/-! RE8c: lists cut by steps, x[a:b:n]. -/
namespace RE
open PySem PySem.Spec PyProof.Rows L2

/-- the items that a slice by steps takes -/
def pickL {α : Type} (xs : List α) (lo hi : Option Int) (n : Int) : List α := (sliceRange (sliceBounds lo hi (some n) xs.length).1 (sliceBounds lo hi (some n) xs.length).2.1 (sliceBounds lo hi (some n) xs.length).2.2).filterMap (xs[·]?)
theorem pick_mem {α : Type} {xs : List α} {lo hi : Option Int} {n : Int} {x : α} (h : x ∈ pickL xs lo hi n) : x ∈ xs := by
  unfold pickL at h
  obtain ⟨i, _, e⟩ := List.mem_filterMap.mp h
  exact List.mem_of_getElem? e
theorem Vals.some_of : ∀ {xs : List V} {us : List Value} {i : Nat}, Vals xs us → (xs[i]? = none ↔ us[i]? = none) := fun {xs us i} r => by
  rw [List.getElem?_eq_none_iff, List.getElem?_eq_none_iff, r.length]
theorem Vals.pick {xs : List V} {us : List Value} (r : Vals xs us) : ∀ l : List Nat, Vals (l.filterMap (xs[·]?)) (l.filterMap (us[·]?))
  | [] => .nil
  | i :: l => by
    cases hx : xs[i]? with
    | none =>
      have hu := (Vals.some_of r).mp hx
      rw [List.filterMap_cons_none hx, List.filterMap_cons_none hu]
      exact Vals.pick r l
    | some x =>
      obtain ⟨u, hu, rel⟩ := r.get hx
      rw [List.filterMap_cons_some hx, List.filterMap_cons_some hu]
      exact .cons rel (Vals.pick r l)
theorem RepL.pick {P : Addr → Prop} {H : Hp} {ds : List D} {vs : List V} (h : RepL P H ds vs) : ∀ l : List Nat, RepL P H (l.filterMap (ds[·]?)) (l.filterMap (vs[·]?))
  | [] => by simp [RepL]
  | i :: l => by
    by_cases hi : i < ds.length
    · obtain ⟨v, hv, rel⟩ := h.get (List.getElem?_eq_getElem hi)
      rw [List.filterMap_cons_some (List.getElem?_eq_getElem hi), List.filterMap_cons_some hv]
      simp only [RepL]
      exact ⟨v, _, rfl, rel, RepL.pick h l⟩
    · have hd : ds[i]? = none := List.getElem?_eq_none (by omega)
      have hv : vs[i]? = none := List.getElem?_eq_none (by rw [h.len]; omega)
      rw [List.filterMap_cons_none hd, List.filterMap_cons_none hv]
      exact RepL.pick h l
theorem RepL.pickL {P : Addr → Prop} {H : Hp} {ds : List D} {vs : List V} (h : RepL P H ds vs) (lo hi : Option Int) (n : Int) : RepL P H (RE.pickL ds lo hi n) (RE.pickL vs lo hi n) := by
  unfold RE.pickL
  rw [h.len]
  exact RepL.pick h _
theorem pick_len {α : Type} (xs : List α) (lo hi : Option Int) (n : Int) : (pickL xs lo hi n).length ≤ (sliceRange (sliceBounds lo hi (some n) xs.length).1 (sliceBounds lo hi (some n) xs.length).2.1 (sliceBounds lo hi (some n) xs.length).2.2).length := List.length_filterMap_le _ _
def tStep (K : PySem.W.Frag) (te : TE) (tl tu : TO) (n : Int) : TE := fun σ H Q => te σ H fun x H1 => (∃ a xs, x = .ref a ∧ SqL K H1 a xs) ∧ tl σ H1 fun l H2 => tu σ H2 fun u H3 => ∃ a xs, x = .ref a ∧ SqL K H3 a xs ∧ (pickL xs l u n).length ≤ sizeLine ∧ ∀ p, H3 p = none → Q (.ref p) (upd H3 p (.lst (pickL xs l u n)))
theorem pe_stepL {X : Cx} {e : Expr} {lo hi : Option Expr} {te : TE} {tl tu : TO} {n : Int} {k : Nat} {p1 p3 pos : Pos} (hn : n ≠ 0) (he : PE X e te) (hl : PO X lo tl) (hu : PO X hi tu) : PE X (.Subscript e (.Slice lo hi (some (.Constant (.int n) k p1)) p3) pos) (tStep X.K te tl tu n) := by
  refine ⟨fun pins s σ H Q I h => ?_⟩
  refine Subscript_ (thn (he.run pins s σ H _ I h) fun v s1 ⟨x, H1, I1, r1, _, q1⟩ => ?_)
  have hst : PO X (some (.Constant (.int n) k p1)) (tPart (tC (.int n))) := po_some pe_int
  refine wpAny_Slice (thn (hl.run pins s1 σ H1 _ I1 q1) fun vl s2 ⟨l, H2, I2, pl, q2⟩ => ?_)
  refine thn (hu.run pins s2 σ H2 _ I2 q2) fun vu s3 ⟨u, H3, I3, pu, q3⟩ => ?_
  refine thn (hst.run pins s3 σ H3 (fun o H4 => o = some n ∧ H4 = H3) I3 ⟨n, rfl, rfl, rfl⟩) fun vs s4 ⟨o, H4, I4, ps, eo, e4⟩ => ?_
  subst eo e4
  obtain ⟨a, xs, ex, hx, hb, q⟩ := q3
  subst ex
  cases r1
  have I5 : Inv X pins σ H4 { s4 with heap := s4.heap.push { cls := .type "slice", data := .fields #[vl, vu, vs] } } := I4.kept (t' := s4.toks) fun b ob q => Heap.get?_push_of_some _ q
  obtain ⟨its, r, ht, hz⟩ := I5.list hx
  have hlen := r.length
  show wpAny (model X.prog X.w) X.A (subscriptTail e (.Slice lo hi (some (.Constant (.int n) k p1)) p3) (.ref a) (.ref s4.heap.objs.size)) (EP X pins σ Q) X.xe { s4 with heap := s4.heap.push { cls := .type "slice", data := .fields #[vl, vu, vs] } }
  refine tail_any (ops := [.ref a, .ref s4.heap.objs.size]) ht.isList.typeIs (PySem.slot_list_getitem.lookup) ?_ (by with_unfolding_all rfl)
  refine wpAny_getItem_list_slice ht.isList (Heap.IsSliceOf.new _ vl vu vs) pl pu ps (by simpa using hn) ?_ (by rw [List.size_toArray]; omega)
  have ep : slicePick its.toArray l u (some n) = (pickL its l u n).toArray := by
    unfold slicePick pickL
    rw [List.size_toArray]
    congr 2
    funext j
    simp
  rw [ep]
  refine ⟨.ref _, _, I5.laid (t' := s4.toks) (o := .lst (pickL xs l u n)) (fun b ob q => Heap.get?_push_of_some _ q) (Nat.le_refl _) ?_, rfl, q _ (I5.hok.fresh (Nat.le_refl _))⟩
  refine ⟨hb, _, 0, ?_, Heap.get?_push_size _ rfl⟩
  unfold pickL
  rw [hlen]
  exact Vals.pick r _
/-- x[a:b:n] of a list -/
def stepD (n : Int) (lo hi : Option Int) : D → Option D
  | .lst xs => if fits (pickL xs lo hi n).length then some (.lst (pickL xs lo hi n)) else none
  | _ => none
def cStep (f : SE) (lo hi : SO) (n : Int) : SE := fun F ρ => (f F ρ).bind fun d => (lo F ρ).bind fun l => (hi F ρ).bind fun h => stepD n l h d
theorem evN_step {X : Cx} {ks : Ks} {F : Fn} {e : Expr} {lo hi : Option Expr} {f : SE} {g h : SO} {n : Int} {k : Nat} {p1 p3 pos : Pos} (hn : n ≠ 0) (he : EvP X ks F e f) (hl : EvO X ks F lo g) (hh : EvO X ks F hi h) : EvN X ks F (.Subscript e (.Slice lo hi (some (.Constant (.int n) k p1)) p3) pos) (cStep f g h n) := by
  obtain ⟨t, p, q⟩ := he.ex
  obtain ⟨tl, pl, ql⟩ := hl.ex
  obtain ⟨tu, pu, qu⟩ := hh.ex
  refine ⟨_, pe_stepL hn p pl pu, fun σ H P ρ Q d fr er ev kk => ?_⟩
  obtain ⟨x, e1, ev1⟩ := Option.bind_eq_some_iff.mp ev
  obtain ⟨l, e2, ev2⟩ := Option.bind_eq_some_iff.mp ev1
  obtain ⟨u, e3, ev3⟩ := Option.bind_eq_some_iff.mp ev2
  cases x <;> simp only [stepD] at ev3 <;> first | (cases ev3; done) | skip
  by_cases c : fits (RE.pickL ‹List D› l u n).length = true
  · rw [if_pos c] at ev3
    cases ev3
    refine q σ H P ρ _ _ fr er e1 fun v H1 s1 r1 => ?_
    obtain ⟨a, vs, rfl, h1, h2⟩ := r1.lst
    refine ⟨⟨a, vs, rfl, SqL.of h1⟩, ql σ H1 P ρ _ l (fr.same s1) (er.same s1) e2 fun H2 s2 => ?_⟩
    refine qu σ H2 P ρ _ u ((fr.same s1).same s2) ((er.same s1).same s2) e3 fun H3 s3 => ?_
    have h4 := (h2.same s2).same s3
    refine ⟨a, vs, rfl, SqL.of (s3 _ _ (s2 _ _ h1)), ?_, fun p hp => kk _ _ (((s1.trans s2).trans s3).trans (same_new hp)) ⟨?_, topNew_ref (((s1.trans s2).trans s3).free hp)⟩⟩
    · rw [(h4.pickL l u n).len]
      exact of_decide_eq_true c
    · simp only [Rep]
      exact ⟨p, _, rfl, (((fr.same s1).same s2).same s3) p hp, upd_same, (h4.pickL l u n).same (same_new hp)⟩
  · rw [if_neg c] at ev3; cases ev3
end RE
/-! RE9: statements. -/
namespace RE
open PySem PySem.Spec PyProof.Rows L2

inductive Res where
  | nx (ρ : RE.Env) | rt (nw : Bool) (d : D)
abbrev SS := Fn → RE.Env → Option Res
/-- the state within a def's body: Hb, Pe: the heap and the allowed places at its entry; P: the allowed places now -/
structure SR (mg : Str → Option Value) (Hb : Hp) (Pe P : Addr → Prop) (ks : Ks) (H : Hp) (σ : L2.St) (ρ : RE.Env) : Prop where
  freE : ∀ a, Hb a = none → Pe a
  sub : ∀ a, P a → Pe a
  fre : Fre P H
  keep : Same Hb H
  er : ER mg P ks H σ ρ
  own : ∀ i d, (kd ks i = .M ∨ kd ks i = .L) → ρ[i]? = some (some d) → isMut d = true → ∃ a, σ[i]? = some (some (.ref a)) ∧ Hb a = none ∧ ¬ P a ∧ (kd ks i = .M → Chg (H a))
  dist : ∀ i j d e a, i ≠ j → (kd ks i = .M ∨ kd ks i = .L) → (kd ks j = .M ∨ kd ks j = .L) → ρ[i]? = some (some d) → ρ[j]? = some (some e) → isMut d = true → isMut e = true → σ[i]? = some (some (.ref a)) → σ[j]? = some (some (.ref a)) → False
  bord : ∀ i d a, kd ks i = .B → ρ[i]? = some (some d) → isMut d = true → σ[i]? = some (some (.ref a)) → Hb a ≠ none
  nofn : ∀ i g, (kd ks i = .M ∨ kd ks i = .L) → ρ[i]? ≠ some (some (.fn g))
/-- what a piece of a body leaves as it was -/
structure Frm (ks : Ks) (P : Addr → Prop) (H : Hp) (σ : L2.St) (ρ : RE.Env) (P' : Addr → Prop) (H' : Hp) (σ' : L2.St) (ρ' : RE.Env) : Prop where
  sub : ∀ a, P' a → P a
  ext : ∀ a, H a ≠ none → P a → P' a
  slots : ∀ i, kd ks i = .L ∨ kd ks i = .B → σ'[i]? = σ[i]? ∧ ρ'[i]? = ρ[i]?
  objs : ∀ b o, H b = some o → Top ks σ ρ P b ∨ ¬ Chg (some o) → H' b = some o
  there : ∀ c, H c ≠ none → H' c ≠ none
theorem Frm.refl {ks : Ks} {P : Addr → Prop} {H : Hp} {σ : L2.St} {ρ : RE.Env} : Frm ks P H σ ρ P H σ ρ := ⟨fun _ p => p, fun _ _ p => p, fun _ _ => ⟨rfl, rfl⟩, fun _ _ e _ => e, fun _ h => h⟩
theorem Frm.trans {ks : Ks} {P P1 P2 : Addr → Prop} {H H1 H2 : Hp} {σ σ1 σ2 : L2.St} {ρ ρ1 ρ2 : RE.Env} (a : Frm ks P H σ ρ P1 H1 σ1 ρ1) (b : Frm ks P1 H1 σ1 ρ1 P2 H2 σ2 ρ2) : Frm ks P H σ ρ P2 H2 σ2 ρ2 where
  sub := fun c p => a.sub c (b.sub c p)
  ext := fun c h p => b.ext c (a.there c h) (a.ext c h p)
  slots := fun i h => ⟨(b.slots i h).1.trans (a.slots i h).1, (b.slots i h).2.trans (a.slots i h).2⟩
  objs := fun c o e h => by
    refine b.objs c o (a.objs c o e h) ?_
    rcases h with (p | ⟨i, d, hi, hs, hr, hm⟩) | h
    · exact .inl (.inl (a.ext c (by rw [e]; simp) p))
    · exact .inl (.inr ⟨i, d, hi, by rw [(a.slots i hi).1]; exact hs, by rw [(a.slots i hi).2]; exact hr, hm⟩)
    · exact .inr h
  there := fun c h => b.there c (a.there c h)
theorem Frm.of_same {ks : Ks} {P : Addr → Prop} {H H' : Hp} {σ : L2.St} {ρ : RE.Env} (s : Same H H') : Frm ks P H σ ρ P H' σ ρ := ⟨fun _ p => p, fun _ _ p => p, fun _ _ => ⟨rfl, rfl⟩, fun b o e _ => s b o e, fun c h z => h (s.free z)⟩
theorem SR.same {mg : Str → Option Value} {Hb : Hp} {Pe P : Addr → Prop} {ks : Ks} {H H' : Hp} {σ : L2.St} {ρ : RE.Env} (h : SR mg Hb Pe P ks H σ ρ) (s : Same H H') : SR mg Hb Pe P ks H' σ ρ where
  freE := h.freE
  sub := h.sub
  fre := h.fre.same s
  keep := h.keep.trans s
  er := h.er.same s
  own := fun i d hk e m => by
    obtain ⟨a, h1, h2, h3, h4⟩ := h.own i d hk e m
    refine ⟨a, h1, h2, h3, fun q => ?_⟩
    have c := h4 q
    cases q0 : H a with
    | none => rw [q0] at c; exact c.elim
    | some o => rw [s a o q0]; rw [q0] at c; exact c
  dist := h.dist
  bord := h.bord
  nofn := h.nofn
def Post (mg : Str → Option Value) (Hb : Hp) (Pe P : Addr → Prop) (ks : Ks) (H : Hp) (σ : L2.St) (ρ : RE.Env) (D : Ends) : Res → Prop
  | .nx ρ' => ∀ P' σ' H', SR mg Hb Pe P' ks H' σ' ρ' → Frm ks P H σ ρ P' H' σ' ρ' → D.nx σ' H'
  | .rt nw d => ∀ v H', Same Hb H' → Rep Pe H' d v → (nw = true → TopNew Hb d v) → D.rt v H'
structure EvS (X : Cx) (ks : Ks) (F : Fn) (st : Stmt) (g : SS) : Prop where
  ex : ∃ t : TS, PS X st t ∧ ∀ Hb Pe P H σ ρ D r, SR X.mg Hb Pe P ks H σ ρ → g F ρ = some r → Post X.mg Hb Pe P ks H σ ρ D r → t D σ H
structure EvSs (X : Cx) (ks : Ks) (F : Fn) (st : List Stmt) (g : SS) : Prop where
  ex : ∃ t : TS, PSs X st t ∧ ∀ Hb Pe P H σ ρ D r, SR X.mg Hb Pe P ks H σ ρ → g F ρ = some r → Post X.mg Hb Pe P ks H σ ρ D r → t D σ H

section
variable {X : Cx} {ks : Ks} {F : Fn} {pos : Pos}
def sNil : SS := fun _ ρ => some (.nx ρ)
def sSeq (f g : SS) : SS := fun F ρ => (f F ρ).bind fun r => match r with | .nx ρ' => g F ρ' | .rt b d => some (.rt b d)
theorem evSs_nil : EvSs X ks F [] sNil := ⟨tNext, pss_nil, fun Hb Pe P H σ ρ D r sr e k => by cases e; exact k P σ H sr Frm.refl⟩
theorem Post.after {mg : Str → Option Value} {Hb : Hp} {Pe P P1 : Addr → Prop} {H H1 : Hp} {σ σ1 : L2.St} {ρ ρ1 : RE.Env} {D : Ends} {r : Res} (k : Post mg Hb Pe P ks H σ ρ D r) (f : Frm ks P H σ ρ P1 H1 σ1 ρ1) : Post mg Hb Pe P1 ks H1 σ1 ρ1 D r := by
  cases r with
  | nx ρ' => exact fun P' σ' H' sr f' => k P' σ' H' sr (f.trans f')
  | rt b d => exact k
theorem evSs_cons {st : Stmt} {rest : List Stmt} {f g : SS} (h : EvS X ks F st f) (h' : EvSs X ks F rest g) : EvSs X ks F (st :: rest) (sSeq f g) := by
  obtain ⟨t, p, q⟩ := h.ex
  obtain ⟨t', p', q'⟩ := h'.ex
  refine ⟨tSeq t t', pss_cons p p', fun Hb Pe P H σ ρ D r sr e k => ?_⟩
  obtain ⟨r1, e1, e2⟩ := Option.bind_eq_some_iff.mp e
  refine q Hb Pe P H σ ρ _ r1 sr e1 ?_
  cases r1 with
  | nx ρ1 => exact fun P1 σ1 H1 sr1 f1 => q' Hb Pe P1 H1 σ1 ρ1 D r sr1 e2 (k.after f1)
  | rt b d => cases e2; exact k

/-! ### assignments -/
theorem SR.assign {mg : Str → Option Value} {Hb : Hp} {Pe P : Addr → Prop} {H : Hp} {σ σ' : L2.St} {ρ ρ' : RE.Env} {is : List Nat} (h : SR mg Hb Pe P ks H σ ρ) (hF : ∀ j ∈ is, kd ks j = .F) (er : ER mg P ks H σ' ρ') (hs : ∀ j, j ∉ is → σ'[j]? = σ[j]?) (hρ : ∀ j, j ∉ is → ρ'[j]? = ρ[j]?) : SR mg Hb Pe P ks H σ' ρ' where
  freE := h.freE
  sub := h.sub
  fre := h.fre
  keep := h.keep
  er := er
  own := fun i d hk e m => by
    have ni : i ∉ is := fun q => by rw [hF i q] at hk; rcases hk with z | z <;> cases z
    rw [hs i ni]
    exact h.own i d hk (by rw [← hρ i ni]; exact e) m
  dist := fun i j d e a ij hi hj e1 e2 m1 m2 s1 s2 => by
    have ni : i ∉ is := fun q => by rw [hF i q] at hi; rcases hi with z | z <;> cases z
    have nj : j ∉ is := fun q => by rw [hF j q] at hj; rcases hj with z | z <;> cases z
    exact h.dist i j d e a ij hi hj (by rw [← hρ i ni]; exact e1) (by rw [← hρ j nj]; exact e2) m1 m2 (by rw [← hs i ni]; exact s1) (by rw [← hs j nj]; exact s2)
  bord := fun i d a hk e m s => by
    have ni : i ∉ is := fun q => by rw [hF i q] at hk; cases hk
    exact h.bord i d a hk (by rw [← hρ i ni]; exact e) m (by rw [← hs i ni]; exact s)
  nofn := fun i g hk => by
    have ni : i ∉ is := fun q => by rw [hF i q] at hk; rcases hk with z | z <;> cases z
    rw [hρ i ni]
    exact h.nofn i g hk
theorem Frm.assign {P : Addr → Prop} {H : Hp} {σ σ' : L2.St} {ρ ρ' : RE.Env} {is : List Nat} (hF : ∀ j ∈ is, kd ks j = .F) (hs : ∀ j, j ∉ is → σ'[j]? = σ[j]?) (hr : ∀ j, j ∉ is → ρ'[j]? = ρ[j]?) : Frm ks P H σ ρ P H σ' ρ' :=
  ⟨fun _ p => p, fun _ _ p => p, (fun i hi => have ni : i ∉ is := fun q => by rw [hF i q] at hi; exact hi.elim (fun z => nomatch z) fun z => nomatch z
    ⟨hs i ni, hr i ni⟩), fun _ _ e _ => e, fun _ h => h⟩
/-- asg touches the slots is alone -/
def Touches (asg : SG) (is : List Nat) : Prop := ∀ d ρ ρ', asg d ρ = some ρ' → ρ'.length = ρ.length ∧ ∀ j, j ∉ is → ρ'[j]? = ρ[j]?
def TouchesL (asg : SGs) (is : List Nat) : Prop := ∀ d ρ ρ', asg d ρ = some ρ' → ρ'.length = ρ.length ∧ ∀ j, j ∉ is → ρ'[j]? = ρ[j]?
theorem touches_name {i : Nat} : Touches (gN i) [i] := fun d ρ ρ' e => by
  cases e
  exact ⟨List.length_set, fun j hj => List.getElem?_set_ne (by simpa [eq_comm] using hj)⟩
theorem touches_nil : TouchesL gsNil [] := fun d ρ ρ' e => by
  cases d <;> cases e
  exact ⟨rfl, fun _ _ => rfl⟩
theorem touches_cons {a : SG} {b : SGs} {is js : List Nat} (h : Touches a is) (g : TouchesL b js) : TouchesL (gsCons a b) (is ++ js) := fun ds ρ ρ' e => by
  cases ds with
  | nil => cases e
  | cons d ds =>
    obtain ⟨ρ1, e1, e2⟩ := Option.bind_eq_some_iff.mp e
    obtain ⟨l1, h1⟩ := h d ρ ρ1 e1
    obtain ⟨l2, h2⟩ := g ds ρ1 ρ' e2
    refine ⟨l2.trans l1, fun j hj => ?_⟩
    rw [List.mem_append, not_or] at hj
    rw [h2 j hj.2, h1 j hj.1]
theorem touches_tup {b : SGs} {is : List Nat} (h : TouchesL b is) : Touches (gT b) is := fun d ρ ρ' e => by
  cases d <;> simp only [gT] at e <;> first | (cases e; done) | exact h _ ρ ρ' e
def sAsg (f : SE) (asg : SG) : SS := fun F ρ => (f F ρ).bind fun d => (asg d ρ).map .nx
theorem evS_asg {tg e : Expr} {f : SE} {is : List Nat} {asg : SG} (hn : noStar tg = true) (he : EvE X ks F e f) (hg : EvG X ks tg is asg) (ht : Touches asg is) (hF : ∀ j ∈ is, kd ks j = .F) (hs : swapsWithSole [tg] e pos.line X.env = pure false) (hw : swappedStores [tg] e X.env = pure none) :
    EvS X ks F (.Assign [tg] e pos) (sAsg f asg) := by
  obtain ⟨t, p, q⟩ := he.ex
  refine ⟨tAsg t (tG X.mg ks is asg), ps_asg p hg.can hs hw (by rw [assignEach_cons (noStar_ne hn)]; rfl), fun Hb Pe P H σ ρ D r sr ev k => ?_⟩
  obtain ⟨d, e1, e2⟩ := Option.bind_eq_some_iff.mp ev
  obtain ⟨ρ', e3, rfl⟩ := Option.map_eq_some_iff.mp e2
  refine q σ H P ρ _ d sr.fre sr.er e1 fun v H1 s1 r1 => ?_
  refine ⟨P, ρ, ρ', d, r1, sr.er.same s1, e3, fun σ' er' hl hj => ?_⟩
  have sr1 := (sr.same s1).assign hF er' hj (ht d ρ ρ' e3).2
  exact k P σ' H1 sr1 ((Frm.of_same s1).trans (Frm.assign hF hj (ht d ρ ρ' e3).2))
/-- x = e where x is the frame's own, e new -/
theorem Rep.inner {P : Addr → Prop} {H : Hp} {a : Addr} : ∀ (d : D) (v : V) (e : D), sizeOf d < sizeOf e → Rep P H e (.ref a) → (H a).isSome = true → (∀ vs, H a ≠ some (.tup vs)) → Rep P H d v → Rep (fun b => P b ∧ b ≠ a) H d v := by
  intro d v e hlt he ha ht h
  have key : ∀ (d' : D) (b : Addr), Rep P H d' (.ref b) → sizeOf d' < sizeOf e → b ≠ a := fun d' b hd hl q => by
    subst q
    have := Rep.inj d' e (.ref b) hd he
    rw [this] at hl
    exact Nat.lt_irrefl _ hl
  have go : ∀ n, (∀ d v, sizeOf d ≤ n → sizeOf d < sizeOf e → Rep P H d v → Rep (fun b => P b ∧ b ≠ a) H d v) := by
    intro n
    induction n with
    | zero => intro d v h0; cases d <;> simp at h0 <;> omega
    | succ n ih =>
      have ihL : ∀ (ds : List D) (vs : List V), sizeOf ds ≤ n + 1 → sizeOf ds < sizeOf e → RepL P H ds vs → RepL (fun b => P b ∧ b ≠ a) H ds vs := by
        intro ds
        induction ds with
        | nil => intro vs _ _ h; simpa only [RepL] using h
        | cons d ds ihd =>
          intro vs h1 h2 h
          simp only [RepL] at h ⊢
          obtain ⟨w, r, rfl, r1, r2⟩ := h
          simp only [List.cons.sizeOf_spec] at h1 h2
          exact ⟨w, r, rfl, ih d w (by omega) (by omega) r1, ihd r (by omega) (by omega) r2⟩
      have ihK : ∀ (ds : List (D × D)) (vs : List (D × V)), sizeOf ds ≤ n + 1 → sizeOf ds < sizeOf e → RepKV P H ds vs → RepKV (fun b => P b ∧ b ≠ a) H ds vs := by
        intro ds
        induction ds with
        | nil => intro vs _ _ h; simpa only [RepKV] using h
        | cons d ds ihd =>
          intro vs h1 h2 h
          obtain ⟨k, d⟩ := d
          simp only [RepKV] at h ⊢
          obtain ⟨w, r, rfl, r1, r2⟩ := h
          simp only [List.cons.sizeOf_spec, Prod.mk.sizeOf_spec] at h1 h2
          exact ⟨w, r, rfl, ih d w (by omega) (by omega) r1, ihd r (by omega) (by omega) r2⟩
      intro d v h1 h2 h
      cases d with
      | non => simpa only [Rep] using h
      | bl => simpa only [Rep] using h
      | int => simpa only [Rep] using h
      | str => simpa only [Rep] using h
      | scr => simpa only [Rep] using h
      | fn => simp only [Rep] at h
      | tup ds =>
        simp only [Rep] at h ⊢
        obtain ⟨b, vs, rfl, q1, q2⟩ := h
        simp only [D.tup.sizeOf_spec] at h1 h2
        exact ⟨b, vs, rfl, q1, ihL ds vs (by omega) (by omega) q2⟩
      | lst ds =>
        have hh := h
        simp only [Rep] at h ⊢
        obtain ⟨b, vs, rfl, q0, q1, q2⟩ := h
        have := key _ b hh h2
        simp only [D.lst.sizeOf_spec] at h1 h2
        exact ⟨b, vs, rfl, ⟨q0, this⟩, q1, ihL ds vs (by omega) (by omega) q2⟩
      | dic t ds =>
        have hh := h
        simp only [Rep] at h ⊢
        obtain ⟨b, vs, rfl, q0, q1, q2⟩ := h
        have := key _ b hh h2
        simp only [D.dic.sizeOf_spec] at h1 h2
        exact ⟨b, vs, rfl, ⟨q0, this⟩, q1, ihK ds vs (by omega) (by omega) q2⟩
  exact go (sizeOf d) d v (Nat.le_refl _) hlt h
/-- a new list or dict: what lies within it lies elsewhere -/
theorem Rep.newTop {mg : Str → Option Value} {P : Addr → Prop} {H : Hp} {d : D} {a : Addr} (h : Rep P H d (.ref a)) (m : isMut d = true) : RepB mg (fun b => P b ∧ b ≠ a) H d (.ref a) := by
  cases d <;> simp only [isMut] at m <;> first | (cases m; done) | skip
  · rename_i xs
    have hh := h
    simp only [Rep] at h
    obtain ⟨b, vs, e, q0, q1, q2⟩ := h
    cases e
    simp only [RepB]
    refine ⟨a, vs, rfl, q1, ?_⟩
    have : ∀ (ds : List D) (ws : List V), sizeOf ds < sizeOf (D.lst xs) → RepL P H ds ws → RepL (fun b => P b ∧ b ≠ a) H ds ws := by
      intro ds
      induction ds with
      | nil => intro ws _ r; simpa only [RepL] using r
      | cons d ds ih =>
        intro ws hl r
        simp only [RepL] at r ⊢
        obtain ⟨w, rr, rfl, r1, r2⟩ := r
        simp only [List.cons.sizeOf_spec] at hl
        exact ⟨w, rr, rfl, Rep.inner d w _ (by omega) hh (by rw [q1]; rfl) (fun vs z => by rw [q1] at z; cases z) r1, ih rr (by omega) r2⟩
    exact this xs vs (by simp only [D.lst.sizeOf_spec]; omega) q2
  · rename_i t xs
    have hh := h
    simp only [Rep] at h
    obtain ⟨b, ps, e, q0, q1, q2⟩ := h
    cases e
    simp only [RepB]
    refine ⟨a, ps, rfl, q1, ?_⟩
    have nt : ∀ vs, H a ≠ some (.tup vs) := fun vs z => (q1.obj z).1 vs rfl
    have hs : (H a).isSome = true := Option.isSome_iff_ne_none.mpr q1.some
    have : ∀ (ds : List (D × D)) (ws : List (D × V)), sizeOf ds < sizeOf (D.dic t xs) → RepKV P H ds ws → RepKV (fun b => P b ∧ b ≠ a) H ds ws := by
      intro ds
      induction ds with
      | nil => intro ws _ r; simpa only [RepKV] using r
      | cons d ds ih =>
        intro ws hl r
        obtain ⟨k, d⟩ := d
        simp only [RepKV] at r ⊢
        obtain ⟨w, rr, rfl, r1, r2⟩ := r
        simp only [List.cons.sizeOf_spec, Prod.mk.sizeOf_spec] at hl
        exact ⟨w, rr, rfl, Rep.inner d w _ (by omega) hh hs nt r1, ih rr (by omega) r2⟩
    exact this xs ps (by simp only [D.dic.sizeOf_spec]; omega) q2
end
end RE
/-! RE10: own slots; if, for, while, return. -/
namespace RE
open PySem PySem.Spec PyProof.Rows L2

section
variable {X : Cx} {ks : Ks} {F : Fn} {pos : Pos}
/-- the allowed places shrink, the heap grows -/
theorem SR.shrink {mg : Str → Option Value} {Hb : Hp} {Pe P P' : Addr → Prop} {H H' : Hp} {σ : L2.St} {ρ : RE.Env} (h : SR mg Hb Pe P ks H σ ρ) (s : Same H H') (sub : ∀ a, P' a → P a) (ext : ∀ a, H a ≠ none → P a → P' a) (fr : Fre P' H') : SR mg Hb Pe P' ks H' σ ρ where
  freE := h.freE
  sub := fun a p => h.sub a (sub a p)
  fre := fr
  keep := h.keep.trans s
  er := h.er.mono s ext
  own := fun i d hk e m => by
    obtain ⟨a, h1, h2, h3, h4⟩ := (h.same s).own i d hk e m
    exact ⟨a, h1, h2, fun p => h3 (sub a p), h4⟩
  dist := h.dist
  bord := h.bord
  nofn := h.nofn
theorem Frm.shrink {P P' : Addr → Prop} {H H' : Hp} {σ : L2.St} {ρ : RE.Env} (s : Same H H') (sub : ∀ a, P' a → P a) (ext : ∀ a, H a ≠ none → P a → P' a) : Frm ks P H σ ρ P' H' σ ρ :=
  ⟨sub, ext, fun _ _ => ⟨rfl, rfl⟩, fun b o e _ => s b o e, fun c h z => h (s.free z)⟩
/-- what may be stored in a slot, and where it stands apart -/
def Fits (mg : Str → Option Value) (Hb : Hp) (P : Addr → Prop) (ks : Ks) (H : Hp) (σ : L2.St) (ρ : RE.Env) (i : Nat) (d : D) (v : V) : Prop :=
  match kd ks i with
  | .F => Rep P H d v
  | .M => (RepB mg P H d v ∧ ∀ g, d ≠ .fn g) ∧ (isMut d = true → ∃ a, v = .ref a ∧ Hb a = none ∧ ¬ P a ∧ Chg (H a) ∧ ∀ j e, j ≠ i → (kd ks j = .M ∨ kd ks j = .L) → ρ[j]? = some (some e) → isMut e = true → σ[j]? ≠ some (some (.ref a)))
  | _ => False
theorem SR.set {mg : Str → Option Value} {Hb : Hp} {Pe P : Addr → Prop} {H : Hp} {σ : L2.St} {ρ : RE.Env} {i : Nat} {d : D} {v : V} (h : SR mg Hb Pe P ks H σ ρ) (f : Fits mg Hb P ks H σ ρ i d v) : SR mg Hb Pe P ks H (σ.set i (some v)) (ρ.set i (some d)) := by
  unfold Fits at f
  cases hk : kd ks i with
  | F =>
    rw [hk] at f
    exact h.assign (is := [i]) (by simp [hk]) (h.er.set (by rw [hk]; exact f)) (fun j hj => List.getElem?_set_ne (by simpa [eq_comm] using hj)) fun j hj => List.getElem?_set_ne (by simpa [eq_comm] using hj)
  | L => rw [hk] at f; exact f.elim
  | B => rw [hk] at f; exact f.elim
  | M =>
    rw [hk] at f
    obtain ⟨⟨r, nf⟩, fm⟩ := f
    have at_i : ∀ {e : D}, (ρ.set i (some d))[i]? = some (some e) → e = d ∧ i < σ.length := fun {e} q => by
      have hi : i < ρ.length := by
        rw [← List.length_set (i := i) (a := some d)]
        exact (List.getElem?_eq_some_iff.mp q).1
      rw [List.getElem?_set_self hi] at q
      cases q
      exact ⟨rfl, by rw [← h.er.1]; exact hi⟩
    have ne_i : ∀ {j : Nat} {e : D}, j ≠ i → (ρ.set i (some d))[j]? = some (some e) → ρ[j]? = some (some e) := fun {j e} hj q => by rwa [List.getElem?_set_ne (Ne.symm hj)] at q
    refine ⟨h.freE, h.sub, h.fre, h.keep, h.er.set (by rw [hk]; exact r), fun j e hj q m => ?_, fun j k e e' a jk hj hk' q q' m m' s s' => ?_, fun j e a hj q m s => ?_, fun j g hj q => ?_⟩
    · by_cases c : j = i
      · subst c
        obtain ⟨rfl, hi⟩ := at_i q
        obtain ⟨a, rfl, h1, h2, h3, _⟩ := fm m
        exact ⟨a, List.getElem?_set_self hi, h1, h2, fun _ => h3⟩
      · obtain ⟨a, h1, h2⟩ := h.own j e hj (ne_i c q) m
        exact ⟨a, by rw [List.getElem?_set_ne (Ne.symm c)]; exact h1, h2⟩
    · by_cases c : j = i
      · subst c
        obtain ⟨rfl, hi⟩ := at_i q
        obtain ⟨b, rfl, _, _, _, ap⟩ := fm m
        rw [List.getElem?_set_self hi] at s
        cases s
        have c2 : k ≠ j := Ne.symm jk
        rw [List.getElem?_set_ne (Ne.symm c2)] at s'
        exact ap k e' c2 hk' (ne_i c2 q') m' s'
      · by_cases c2 : k = i
        · subst c2
          obtain ⟨rfl, hi⟩ := at_i q'
          obtain ⟨b, rfl, _, _, _, ap⟩ := fm m'
          rw [List.getElem?_set_self hi] at s'
          cases s'
          rw [List.getElem?_set_ne (Ne.symm c)] at s
          exact ap j e c hj (ne_i c q) m s
        · rw [List.getElem?_set_ne (Ne.symm c)] at s
          rw [List.getElem?_set_ne (Ne.symm c2)] at s'
          exact h.dist j k e e' a jk hj hk' (ne_i c q) (ne_i c2 q') m m' s s'
    · have c : j ≠ i := fun z => by rw [z, hk] at hj; cases hj
      rw [List.getElem?_set_ne (Ne.symm c)] at s
      exact h.bord j e a hj (ne_i c q) m s
    · by_cases c : j = i
      · subst c
        obtain ⟨e, _⟩ := at_i q
        exact nf g e.symm
      · exact h.nofn j g hj (ne_i c q)
theorem Frm.set {P : Addr → Prop} {H : Hp} {σ : L2.St} {ρ : RE.Env} {i : Nat} {d : D} {v : V} (hi : kd ks i = .F ∨ kd ks i = .M) : Frm ks P H σ ρ P H (σ.set i (some v)) (ρ.set i (some d)) :=
  ⟨fun _ p => p, fun _ _ p => p, fun j hj => have c : i ≠ j := fun z => by subst z; rcases hi with z | z <;> rw [z] at hj <;> rcases hj with y | y <;> cases y
    ⟨List.getElem?_set_ne c, List.getElem?_set_ne c⟩, fun _ _ e _ => e, fun _ h => h⟩
/-- a place where nothing stood is no slot's -/
theorem SR.apart {mg : Str → Option Value} {Hb : Hp} {Pe P : Addr → Prop} {H : Hp} {σ : L2.St} {ρ : RE.Env} (h : SR mg Hb Pe P ks H σ ρ) {a : Addr} (n : H a = none) : ∀ j e, (kd ks j = .M ∨ kd ks j = .L) → ρ[j]? = some (some e) → isMut e = true → σ[j]? ≠ some (some (.ref a)) := fun j e hj q m s => by
  obtain ⟨v, e1, r⟩ := h.er.2 j e q
  rw [s] at e1; cases e1
  have rb := r.toB
  cases e <;> simp only [isMut] at m <;> first | (cases m; done) | skip
  · obtain ⟨b, vs, e, hb, _⟩ := rb.lst; cases e; rw [n] at hb; cases hb
  · obtain ⟨b, ps, e, hb, _⟩ := rb.dic; cases e; exact hb.some n
/-- its list or dict is not locked -/
def Unl (H : Hp) (d : D) (v : V) : Prop := isMut d = true → ∀ a, v = .ref a → Chg (H a)
/-- e gives f: a new object, not locked -/
structure EvM (X : Cx) (ks : Ks) (F : Fn) (e : Expr) (f : SE) : Prop where
  ex : ∃ t : TE, PE X e t ∧ ∀ σ H, Cn X.mg H ks F f σ (fun P d v H' => Rep P H' d v ∧ TopNew H d v ∧ Unl H' d v) t
def cND (f : SE) : SE := fun F ρ => (f F ρ).bind fun d => if isDic d then none else some d
theorem EvN.toM {e : Expr} {f : SE} (h : EvN X ks F e f) : EvM X ks F e (cND f) := by
  obtain ⟨t, p, q⟩ := h.ex
  refine ⟨t, p, fun σ H P ρ Q d fr er ev k => ?_⟩
  obtain ⟨x, e1, e2⟩ := Option.bind_eq_some_iff.mp ev
  split at e2
  · cases e2
  · rename_i hd
    cases e2
    refine q σ H P ρ Q d fr er e1 fun v H' s r => k v H' s ⟨r.1, r.2, fun hm a ea => ?_⟩
    cases d <;> simp only [isMut] at hm <;> first | (cases hm; done) | skip
    · subst ea
      have r1 := r.1
      simp only [Rep] at r1
      obtain ⟨b, vs, e, _, h1, _⟩ := r1
      cases e
      rw [h1]; trivial
    · exact absurd rfl hd
/-- a new value for an own slot, told apart: the places allowed behind it -/
theorem new_fits {mg : Str → Option Value} {Hb : Hp} {Pe P : Addr → Prop} {H H' : Hp} {σ : L2.St} {ρ : RE.Env} {i : Nat} {d : D} {v : V} (h : SR mg Hb Pe P ks H σ ρ) (hk : kd ks i = .M) (s : Same H H') (r : Rep P H' d v) (tn : TopNew H d v) (un : Unl H' d v) :
    ∃ P', (∀ a, P' a → P a) ∧ (∀ a, H a ≠ none → P a → P' a) ∧ Fre P' H' ∧ Fits mg Hb P' ks H' σ ρ i d v ∧ ∀ a, v = .ref a → isMut d = true → ¬ P' a := by
  cases hm : isMut d with
  | false =>
    refine ⟨P, fun _ p => p, fun _ _ p => p, h.fre.same s, ?_, fun a _ z => by cases z⟩
    unfold Fits
    rw [hk]
    exact ⟨⟨r.toB, fun g e => by subst e; simp only [Rep] at r⟩, fun z => by rw [hm] at z; cases z⟩
  | true =>
    obtain ⟨a, rfl, na⟩ : ∃ a, v = .ref a ∧ H a = none := by
      cases d <;> simp only [isMut] at hm <;> first | (cases hm; done) | skip
      · simp only [Rep] at r; obtain ⟨a, vs, rfl, _⟩ := r
        exact ⟨a, rfl, tn a rfl⟩
      · simp only [Rep] at r; obtain ⟨a, ps, rfl, _⟩ := r
        exact ⟨a, rfl, tn a rfl⟩
    have ch := un hm a rfl
    refine ⟨fun b => P b ∧ b ≠ a, fun b p => p.1, fun b hb p => ⟨p, fun z => hb (z ▸ na)⟩, fre_minus (h.fre.same s) (fun z => by rw [z] at ch; exact ch), ?_, fun b eb _ p => p.2 (by cases eb; rfl)⟩
    unfold Fits
    rw [hk]
    exact ⟨⟨r.newTop hm, fun g e => by subst e; cases hm⟩, fun _ => ⟨a, rfl, h.keep.free na, fun z => z.2 rfl, ch, fun j e _ hj q m => h.apart na j e hj q m⟩⟩
def sSetM (i : Nat) (f : SE) : SS := fun F ρ => (f F ρ).map fun d => .nx (ρ.set i (some d))
theorem evS_setM {i : Nat} {x : Str} {e : Expr} {f : SE} {pos' : Pos} (hN : X.N.Nodup) (hi : X.N[i]? = some x) (hx : Loc X.env.scope x) (hk : kd ks i = .M) (he : EvM X ks F e f) (hs : swapsWith e (some (.Name x pos')) pos.line X.env = pure false) (hf : X.fn x = true ∨ X.env.scope.names.lookup x = some .local) :
    EvS X ks F (.Assign [.Name x pos'] e pos) (sSetM i f) := by
  obtain ⟨t, p, q⟩ := he.ex
  refine ⟨tAsg t (gName i), ps_set hN hi hx p hs hf, fun Hb Pe P H σ ρ D r sr ev k => ?_⟩
  obtain ⟨d, e1, rfl⟩ := Option.map_eq_some_iff.mp ev
  refine q σ H P ρ _ d sr.fre sr.er e1 fun v H1 s1 ⟨r1, tn, un⟩ => ?_
  obtain ⟨P', sub, ext, fr', ft, _⟩ := new_fits sr hk s1 r1 tn un
  exact k P' _ H1 ((sr.shrink s1 sub ext fr').set ft) ((Frm.shrink s1 sub ext).trans (Frm.set (.inr hk)))
/-- x = x if c else e, where x is the frame's own -/
theorem set_here {α : Type} {l : List α} {i : Nat} {x : α} (h : l[i]? = some x) : l.set i x = l := by
  apply List.ext_getElem?
  intro j
  by_cases c : i = j
  · subst c
    rw [List.getElem?_set_self (List.getElem?_eq_some_iff.mp h).1, h]
  · rw [List.getElem?_set_ne c]
def sSetIf (i : Nat) (c : SB) (f : SE) : SS := fun F ρ => (c F ρ).bind fun b => if b then (cV i F ρ).map fun _ => .nx ρ else (f F ρ).map fun d => .nx (ρ.set i (some d))
theorem evS_setIf {i : Nat} {x : Str} {c e : Expr} {g : SB} {f : SE} {pos' pos2 pos3 : Pos} (hN : X.N.Nodup) (hi : X.N[i]? = some x) (hx : Loc X.env.scope x) (hv : Vis X.env.scope x) (hd : (x == ("__debug__" : Str)) = false) (hcd : (x == ("__classdict__" : Str)) = false) (hk : kd ks i = .M) (hc : EvT X ks F c g) (he : EvM X ks F e f) (hf : X.fn x = true ∨ X.env.scope.names.lookup x = some .local) :
    EvS X ks F (.Assign [.Name x pos'] (.IfExp c (.Name x pos2) e pos3) pos) (sSetIf i g f) := by
  obtain ⟨tc, pc, qc⟩ := hc.ex
  obtain ⟨t, p, q⟩ := he.ex
  refine ⟨tAsg (tIf tc (tVar i) t) (gName i), ps_set hN hi hx (pe_ifExp pc (pe_var hi hv hd hcd) p) rfl hf, fun Hb Pe P H σ ρ D r sr ev k => ?_⟩
  obtain ⟨b, e1, e2⟩ := Option.bind_eq_some_iff.mp ev
  refine qc σ H P ρ _ b sr.fre sr.er e1 fun H1 s1 => ?_
  cases b with
  | true =>
    rw [if_pos rfl] at e2
    refine iteT ?_
    obtain ⟨d, e3, rfl⟩ := Option.map_eq_some_iff.mp e2
    obtain ⟨v, e4, _⟩ := (sr.same s1).er.2 i d (cV_some e3)
    refine ⟨v, e4, ?_⟩
    show D.nx (σ.set i (some v)) H1
    rw [set_here e4]
    exact k P σ H1 (sr.same s1) (Frm.of_same s1)
  | false =>
    rw [if_neg Bool.false_ne_true] at e2
    refine iteF ?_
    obtain ⟨d, e3, rfl⟩ := Option.map_eq_some_iff.mp e2
    refine q σ H1 P ρ _ d (sr.fre.same s1) (sr.er.same s1) e3 fun v H2 s2 ⟨r1, tn, un⟩ => ?_
    obtain ⟨P', sub, ext, fr', ft, _⟩ := new_fits (sr.same s1) hk s2 r1 tn un
    exact k P' _ H2 (((sr.same s1).shrink s2 sub ext fr').set ft) ((Frm.of_same s1).trans ((Frm.shrink s2 sub ext).trans (Frm.set (.inr hk))))

/-! ### own lists and dicts are changed -/
theorem RepB.chg {mg : Str → Option Value} {P : Addr → Prop} {H : Hp} {a : Addr} {o : HO} (c : Chg (H a)) (np : ¬ P a) {d : D} {v : V} (ne : isMut d = true → v ≠ .ref a) (h : RepB mg P H d v) : RepB mg P (upd H a o) d v := by
  cases d <;> simp only [RepB] at h ⊢ <;> first | exact h | exact Rep.chg c np _ _ h | skip
  · obtain ⟨b, vs, rfl, h1, h2⟩ := h
    have nb : b ≠ a := fun z => ne rfl (by rw [z])
    exact ⟨b, vs, rfl, by rw [upd_ne nb]; exact h1, RepL.chg c np _ _ h2⟩
  · obtain ⟨b, ps, rfl, h1, h2⟩ := h
    have nb : b ≠ a := fun z => ne rfl (by rw [z])
    exact ⟨b, ps, rfl, h1.upd_ne nb, RepKV.chg c np _ _ h2⟩
theorem at_set {ρ : RE.Env} {i j : Nat} {d d' e : D} (h : ρ[i]? = some (some d)) (m : isMut d = true) (q : (ρ.set i (some d'))[j]? = some (some e)) (m' : isMut e = true) : ∃ e', ρ[j]? = some (some e') ∧ isMut e' = true := by
  by_cases c : i = j
  · subst c; exact ⟨d, h, m⟩
  · rw [List.getElem?_set_ne c] at q; exact ⟨e, q, m'⟩
theorem SR.mut {mg : Str → Option Value} {Hb : Hp} {Pe P : Addr → Prop} {H : Hp} {σ : L2.St} {ρ : RE.Env} {i : Nat} {d d' : D} {a : Addr} {o : HO} (h : SR mg Hb Pe P ks H σ ρ) (hk : kd ks i = .M) (e : ρ[i]? = some (some d)) (m : isMut d = true) (s : σ[i]? = some (some (.ref a))) (ch : Chg (some o)) (r : RepB mg P (upd H a o) d' (.ref a)) (m2 : isMut d' = true) :
    SR mg Hb Pe P ks (upd H a o) σ (ρ.set i (some d')) ∧ Frm ks P H σ ρ P (upd H a o) σ (ρ.set i (some d')) := by
  obtain ⟨b, s', hb, np, hc⟩ := h.own i d (.inl hk) e m
  rw [s] at s'; cases s'
  have c := hc hk
  have top : ∀ j x, i ≠ j → ρ[j]? = some (some x) → isMut x = true → kd ks j ≠ .F → σ[j]? ≠ some (some (.ref a)) := fun j x ij q mx kj z => by
    cases kj2 : kd ks j with
    | F => exact kj kj2
    | M => exact h.dist i j d x a ij (.inl hk) (.inl kj2) e q m mx s z
    | L => exact h.dist i j d x a ij (.inl hk) (.inr kj2) e q m mx s z
    | B => exact h.bord j x a kj2 q mx z hb
  have some_a : (upd H a o) a ≠ none := by rw [upd_same]; simp
  constructor
  · refine ⟨h.freE, h.sub, fun b z => h.fre b ?_, fun b x q => ?_, ⟨by rw [List.length_set]; exact h.er.1, fun j x q => ?_⟩, fun j x kj q mx => ?_, fun j l x y b jl kj kl q q' mx my z z' => ?_, fun j x b kj q mx z => ?_, fun j g kj q => ?_⟩
    · have nb : b ≠ a := fun y => some_a (y ▸ z)
      rwa [upd_ne nb] at z
    · have nb : b ≠ a := fun y => by rw [y, hb] at q; cases q
      rw [upd_ne nb]; exact h.keep b x q
    · by_cases ij : i = j
      · subst ij
        have hi : i < ρ.length := (List.getElem?_eq_some_iff.mp e).1
        rw [List.getElem?_set_self hi] at q
        cases q
        exact ⟨_, s, by rw [hk]; exact r⟩
      · rw [List.getElem?_set_ne ij] at q
        obtain ⟨v, e1, r1⟩ := h.er.2 j x q
        refine ⟨v, e1, ?_⟩
        cases kj : kd ks j with
        | F => rw [kj] at r1; exact Rep.chg c np _ _ r1
        | M => rw [kj] at r1; exact RepB.chg c np (fun mx z => top j x ij q mx (by rw [kj]; nofun) (by rw [e1, z])) r1
        | L => rw [kj] at r1; exact RepB.chg c np (fun mx z => top j x ij q mx (by rw [kj]; nofun) (by rw [e1, z])) r1
        | B => rw [kj] at r1; exact RepB.chg c np (fun mx z => top j x ij q mx (by rw [kj]; nofun) (by rw [e1, z])) r1
    · obtain ⟨x', q', mx'⟩ := at_set e m q mx
      obtain ⟨b, z1, z2, z3, z4⟩ := h.own j x' kj q' mx'
      refine ⟨b, z1, z2, z3, fun kj2 => ?_⟩
      by_cases ba : b = a
      · rw [ba, upd_same]; exact ch
      · rw [upd_ne ba]; exact z4 kj2
    · obtain ⟨x', p1, p2⟩ := at_set e m q mx
      obtain ⟨y', p3, p4⟩ := at_set e m q' my
      exact h.dist j l x' y' b jl kj kl p1 p3 p2 p4 z z'
    · obtain ⟨x', p1, p2⟩ := at_set e m q mx
      exact h.bord j x' b kj p1 p2 z
    · by_cases ij : i = j
      · subst ij
        have hi : i < ρ.length := (List.getElem?_eq_some_iff.mp e).1
        rw [List.getElem?_set_self hi] at q
        cases q; cases m2
      · rw [List.getElem?_set_ne ij] at q
        exact h.nofn j g kj q
  · refine ⟨fun _ p => p, fun _ _ p => p, fun j hj => ⟨rfl, List.getElem?_set_ne fun z => by subst z; rw [hk] at hj; rcases hj with y | y <;> cases y⟩, fun b x q hx => ?_, fun b q => ?_⟩
    · have nb : b ≠ a := fun y => by
        subst y
        rcases hx with (p | ⟨j, x', kj, z1, z2, z3⟩) | hx
        · exact np p
        · exact top j x' (fun y => by subst y; rw [hk] at kj; rcases kj with y | y <;> cases y) z2 z3 (by rcases kj with y | y <;> rw [y] <;> nofun) z1
        · rw [q] at c; exact hx c
      rw [upd_ne nb]; exact q
    · by_cases ba : b = a
      · rw [ba]; exact some_a
      · rw [upd_ne ba]; exact q
theorem RepL.snoc {P : Addr → Prop} {H : Hp} {d : D} {v : V} (r : Rep P H d v) : ∀ {ds : List D} {vs : List V}, RepL P H ds vs → RepL P H (ds ++ [d]) (vs ++ [v])
  | [], vs, h => by
    simp only [RepL] at h
    subst h
    simp only [List.nil_append, RepL]
    exact ⟨v, [], rfl, r, rfl⟩
  | d1 :: ds, vs, h => by
    simp only [RepL] at h
    obtain ⟨w, rr, rfl, h1, h2⟩ := h
    simp only [List.cons_append, RepL]
    exact ⟨w, rr ++ [v], rfl, h1, RepL.snoc r h2⟩
def sApp (i : Nat) (f : SE) : SS := fun F ρ => (f F ρ).bind fun d => match cV i F ρ with
  | some (.lst xs) => if fits (xs.length + 1) then some (.nx (ρ.set i (some (.lst (xs ++ [d]))))) else none
  | _ => none
theorem evS_app {i : Nat} {x : Str} {e : Expr} {f : SE} {xp ap cp : Pos} (hi : X.N[i]? = some x) (hv : Vis X.env.scope x) (hd : (x == ("__debug__" : Str)) = false) (hcd : (x == ("__classdict__" : Str)) = false) (hk : kd ks i = .M) (hn : noStar e = true) (he : EvE X ks F e f)
    (hbase : attributeBase (.Name x xp) "append" X.env (eval (.Name x xp) X.env) = eval (.Name x xp) X.env) (hline : (ap.endLine == cp.line) = true) :
    EvS X ks F (.Expr (.Call (.Attribute (.Name x xp) "append" ap) [e] [] cp) pos) (sApp i f) := by
  obtain ⟨t, p, q⟩ := he.ex
  refine ⟨tDrop (tBM X.K "list" rAppend (tVar i) (tCons t tNil)), ps_expr (pe_bm PySem.F.plainAttrs_list PySem.F.slot_list_append PySem.F.type_list_append mt_append (pe_var hi hv hd hcd) (pa_cons p pa_nil (starEach_cons (noStar_ne hn))) hbase
    (by rw [starEach_cons (noStar_ne hn)]; rfl) hline (starEach_cons (noStar_ne hn)) rfl) rfl, fun Hb Pe P H σ ρ D r sr ev k => ?_⟩
  obtain ⟨d, e1, e2⟩ := Option.bind_eq_some_iff.mp ev
  split at e2
  · rename_i xs e3
    split at e2
    · rename_i hf
      cases e2
      have e4 := cV_some e3
      obtain ⟨v, e5, r5⟩ := sr.er.2 i _ e4
      have r5' := r5
      rw [hk] at r5'
      simp only [RepK, RepB] at r5'
      obtain ⟨a, vs, rfl, h1, h2⟩ := r5'
      refine ⟨.ref a, e5, .inl ⟨rfl, vs, .inl (.inl h1)⟩, ?_⟩
      refine q σ H P ρ _ d sr.fre sr.er e1 fun w H1 s1 r1 => ?_
      have hl := h2.len
      have hf := of_decide_eq_true hf
      refine ⟨a, vs, w, rfl, rfl, s1 _ _ h1, by omega, ?_⟩
      have sr1 := sr.same s1
      obtain ⟨b, q1, q2, q3, q4⟩ := sr1.own i _ (.inl hk) e4 rfl
      rw [e5] at q1; cases q1
      obtain ⟨sr2, fm⟩ := sr1.mut (d' := .lst (xs ++ [d])) (o := .lst (vs ++ [w])) hk e4 rfl e5 trivial (by
        simp only [RepB]
        exact ⟨a, _, rfl, upd_same, RepL.snoc (Rep.chg (q4 hk) q3 _ _ r1) (RepL.chg (q4 hk) q3 _ _ (h2.same s1))⟩) rfl
      exact k P σ _ sr2 ((Frm.of_same s1).trans fm)
    · cases e2
  · cases e2
end
end RE
/-! RE11: stores, if, for, while, return. -/
namespace RE
open PySem PySem.Spec PyProof.Rows L2
section
variable {X : Cx} {ks : Ks} {F : Fn} {pos : Pos}

/-! ### x = [..] on one line -/
theorem evS_swF {i : Nat} {x : Str} {e : Expr} {f : SE} {py : Pos} (hi : X.N[i]? = some x) (hl : X.env.scope.names.lookup x = some .local) (hk : kd ks i = .F) (hs : swapsWith e (some (.Name x py)) pos.line X.env = pure true) (he : EvNS X ks F e f) : EvS X ks F (.Assign [.Name x py] e pos) (sAsg f (gN i)) := by
  obtain ⟨t, ⟨_, p⟩, q⟩ := he.ex
  refine ⟨tAsg t (gName i), p i x py pos hi hl hs, fun Hb Pe P H σ ρ D r sr ev k => ?_⟩
  obtain ⟨d, e1, e2⟩ := Option.bind_eq_some_iff.mp ev
  obtain ⟨ρ', e3, rfl⟩ := Option.map_eq_some_iff.mp e2
  cases e3
  refine q σ H P ρ _ d sr.fre sr.er e1 fun v H1 s1 r1 => ?_
  exact k P _ H1 ((sr.same s1).set (by unfold Fits; rw [hk]; exact r1.1)) ((Frm.of_same s1).trans (Frm.set (.inl hk)))
theorem unl_of {P : Addr → Prop} {H : Hp} {d : D} {v : V} (r : Rep P H d v) (h : isDic d = false) : Unl H d v := fun hm a ea => by
  cases d <;> simp only [isMut] at hm <;> first | (cases hm; done) | skip
  · subst ea
    simp only [Rep] at r
    obtain ⟨b, vs, e, _, h1, _⟩ := r
    cases e
    rw [h1]; trivial
  · cases h
theorem evS_swM {i : Nat} {x : Str} {e : Expr} {f : SE} {py : Pos} (hi : X.N[i]? = some x) (hl : X.env.scope.names.lookup x = some .local) (hk : kd ks i = .M) (hs : swapsWith e (some (.Name x py)) pos.line X.env = pure true) (he : EvNS X ks F e f) : EvS X ks F (.Assign [.Name x py] e pos) (sSetM i (cND f)) := by
  obtain ⟨t, ⟨_, p⟩, q⟩ := he.ex
  refine ⟨tAsg t (gName i), p i x py pos hi hl hs, fun Hb Pe P H σ ρ D r sr ev k => ?_⟩
  obtain ⟨d, e0, rfl⟩ := Option.map_eq_some_iff.mp ev
  obtain ⟨d', e1, e2⟩ := Option.bind_eq_some_iff.mp e0
  split at e2
  · cases e2
  · rename_i hd
    cases e2
    refine q σ H P ρ _ d sr.fre sr.er e1 fun v H1 s1 ⟨r1, tn⟩ => ?_
    obtain ⟨P', sub, ext, fr', ft, _⟩ := new_fits sr hk s1 r1 tn (unl_of r1 (by simpa using hd))
    exact k P' _ H1 ((sr.shrink s1 sub ext fr').set ft) ((Frm.shrink s1 sub ext).trans (Frm.set (.inr hk)))

/-! ### x[i] = e -/
theorem RepL.upd {P : Addr → Prop} {H : Hp} {d : D} {v : V} (r : Rep P H d v) : ∀ {ds : List D} {vs : List V} (m : Nat), RepL P H ds vs → RepL P H (ds.set m d) (vs.set m v)
  | [], _, m, h => by simp only [RepL] at h; subst h; simp [RepL]
  | e :: ds, _, 0, h => by
    simp only [RepL] at h
    obtain ⟨w, rr, rfl, h1, h2⟩ := h
    simp only [List.set_cons_zero, RepL]
    exact ⟨v, rr, rfl, r, h2⟩
  | e :: ds, _, m + 1, h => by
    simp only [RepL] at h
    obtain ⟨w, rr, rfl, h1, h2⟩ := h
    simp only [List.set_cons_succ, RepL]
    exact ⟨w, _, rfl, h1, RepL.upd r m h2⟩
def putD (o k v : D) : Option D := match o with
  | .lst xs => match k with
    | .int n => (ixN xs.length n).map fun m => .lst (xs.set m v)
    | _ => none
  | .dic t kvs => if fits (kvs.length + 1) then (dput t kvs k v).map fun q => .dic t q else none
  | _ => none
/-- a store by values: what stands behind it -/
theorem putD_ok {mg : Str → Option Value} {P : Addr → Prop} {H : Hp} {o k v d : D} {a : Addr} {w z : V} (c : Chg (H a)) (np : ¬ P a) (ro : RepB mg P H o (.ref a)) (rk : RepB mg P H k w) (rv : Rep P H v z) (e : putD o k v = some d) :
    isMut o = true ∧ ∃ u, Chg (some u) ∧ (rSetL (.ref a) w z H (fun H' => H' = upd H a u) ∨ rSetD (.ref a) w z H fun H' => H' = upd H a u) ∧ RepB mg P (upd H a u) d (.ref a) := by
  cases o <;> simp only [putD] at e <;> first | (cases e; done) | skip
  · cases k <;> simp only at e <;> first | (cases e; done) | skip
    obtain ⟨m, e1, rfl⟩ := Option.map_eq_some_iff.mp e
    simp only [RepB] at ro rk
    obtain ⟨b, vs, eb, h1, h2⟩ := ro
    cases eb
    rename_i xs n
    refine ⟨rfl, .lst (vs.set m z), trivial, .inl ⟨a, vs, n, m, rfl, rk, h1, by rw [h2.len]; exact e1, rfl⟩, ?_⟩
    simp only [RepB]
    exact ⟨a, _, rfl, upd_same, RepL.chg c np _ _ (RepL.upd rv m h2)⟩
  · rename_i t kvs
    split at e
    · rename_i hf
      have hf := of_decide_eq_true hf
      obtain ⟨q, e1, rfl⟩ := Option.map_eq_some_iff.mp e
      obtain ⟨b, ps, eb, hd, hr⟩ := ro.dic
      cases eb
      cases t with
      | false =>
        obtain ⟨ks, rd, rfl⟩ := hd
        have hl := hr.len
        rw [List.length_map] at hl
        rcases rd with rd | ⟨ob, rd⟩
        · simp only [dput] at e1
          obtain ⟨q', e2, rfl⟩ := Option.map_eq_some_iff.mp e1
          have := keyA_some e2
          subst this
          have ew := rk.key
          refine ⟨rfl, .dK (putK ks q' z), trivial, .inr ⟨a, _, rfl, .inl ⟨ks, q', rd, ew, by omega, rfl⟩, rfl⟩, ?_⟩
          simp only [RepB]
          exact ⟨a, _, rfl, ⟨_, .inl upd_same, rfl⟩, RepKV.chg c np _ _ (kv_put keyA keyD keyA_keyD q' rv hr)⟩
        · rw [rd] at c; exact c.elim
      | true =>
        obtain ⟨ks, rd, rfl⟩ := hd
        have hl := hr.len
        rw [List.length_map] at hl
        rcases rd with rd | ⟨ob, rd⟩
        · simp only [dput] at e1
          obtain ⟨q', e2, rfl⟩ := Option.map_eq_some_iff.mp e1
          have := keyT_some e2
          subst this
          obtain ⟨b, vs, rfl, hb, hvs⟩ := rk.tup
          have := hvs.keys
          subst this
          refine ⟨rfl, .dT (putK ks q' z), trivial, .inr ⟨a, _, rfl, .inr ⟨ks, q', b, rd, rfl, hb, by omega, rfl⟩, rfl⟩, ?_⟩
          simp only [RepB]
          exact ⟨a, _, rfl, ⟨_, .inl upd_same, rfl⟩, RepKV.chg c np _ _ (kv_put keyT (fun ks => .tup (ks.map keyD)) (fun ks => keysA_map ks) q' rv hr)⟩
        · rw [rd] at c; exact c.elim
    · cases e
theorem putD_mut {o k v d : D} (e : putD o k v = some d) : isMut d = true := by
  cases o <;> simp only [putD] at e <;> first | (cases e; done) | skip
  · cases k <;> simp only at e <;> first | (cases e; done) | skip
    obtain ⟨m, e1, rfl⟩ := Option.map_eq_some_iff.mp e
    rfl
  · split at e
    · obtain ⟨q, e1, rfl⟩ := Option.map_eq_some_iff.mp e
      rfl
    · cases e
def plainKey : Expr → Bool
  | .Slice _ _ _ _ => false
  | _ => true
theorem assign_sub {o i : Expr} {p : Pos} (h : plainKey i = true) (env : PySem.Env) : ∀ v, assign (.Subscript o i p) env v = (do
      let ov ← holding [v] (eval o env)
      let iv ← holding [v, ov] (eval i env)
      standAt p
      holding [v, ov, iv] (setItem ov iv v)
      release [v, ov, iv] []) := by
  intro v
  cases i <;> first | rfl | cases h
theorem PSet.or2 {t u : TSet} (h : PSet X t) (g : PSet X u) : PSet X (fun o i v H Q => t o i v H Q ∨ u o i v H Q) := fun pins s σ H o i v ov iv w Q I r1 r2 r3 q => q.elim (h pins s σ H o i v ov iv w Q I r1 r2 r3) (g pins s σ H o i v ov iv w Q I r1 r2 r3)
def sPut (j : Nat) (f g : SE) : SS := fun F ρ => (g F ρ).bind fun v => (cV j F ρ).bind fun o => (f F ρ).bind fun k => (putD o k v).map fun d => .nx (ρ.set j (some d))
theorem evS_put {j : Nat} {x : Str} {e i : Expr} {f g : SE} {xp sp : Pos} (hu : X.A.units + 1 < cLine) (hi : X.N[j]? = some x) (hv : Vis X.env.scope x) (hd : (x == ("__debug__" : Str)) = false) (hcd : (x == ("__classdict__" : Str)) = false) (hk : kd ks j = .M) (hp : plainKey i = true)
    (he : EvE X ks F e g) (hf : EvP X ks F i f) (hs : swapsWithSole [.Subscript (.Name x xp) i sp] e pos.line X.env = pure false) (hw : swappedStores [.Subscript (.Name x xp) i sp] e X.env = pure none) :
    EvS X ks F (.Assign [.Subscript (.Name x xp) i sp] e pos) (sPut j f g) := by
  obtain ⟨t, p, q⟩ := he.ex
  obtain ⟨u, p', q'⟩ := hf.ex
  refine ⟨tAsg t (gSub (tVar j) u fun o i v H Q => rSetL o i v H Q ∨ rSetD o i v H Q), ps_asg p (pg_sub (pe_var hi hv hd hcd) p' (PSet.or2 set_list (set_dict hu)) (assign_sub hp X.env)) hs hw rfl, fun Hb Pe P H σ ρ D r sr ev k => ?_⟩
  obtain ⟨v, e1, ev1⟩ := Option.bind_eq_some_iff.mp ev
  obtain ⟨o, e2, ev2⟩ := Option.bind_eq_some_iff.mp ev1
  obtain ⟨kk, e3, ev3⟩ := Option.bind_eq_some_iff.mp ev2
  obtain ⟨d, e4, rfl⟩ := Option.map_eq_some_iff.mp ev3
  refine q σ H P ρ _ v sr.fre sr.er e1 fun z H1 s1 r1 => ?_
  have sr1 := sr.same s1
  have e5 := cV_some e2
  obtain ⟨w, e6, r6⟩ := sr1.er.2 j o e5
  rw [hk] at r6
  have hm : isMut o = true := by
    cases o <;> simp only [putD] at e4 <;> first | (cases e4; done) | rfl
  obtain ⟨a, q1, q2, q3, q4⟩ := sr1.own j o (.inl hk) e5 hm
  rw [e6] at q1; cases q1
  refine ⟨.ref a, e6, ?_⟩
  refine q' σ H1 P ρ _ kk sr1.fre sr1.er e3 fun y H2 s2 r2 => ?_
  have sr2 := sr1.same s2
  obtain ⟨a', q1', q2', q3', q4'⟩ := sr2.own j o (.inl hk) e5 hm
  rw [e6] at q1'; cases q1'
  obtain ⟨_, uo, cu, hst, rr⟩ := putD_ok (q4' hk) q3' (RepB.same s2 r6) r2 (r1.same s2) e4
  obtain ⟨sr3, fm⟩ := sr2.mut hk e5 hm e6 cu rr (putD_mut e4)
  have fin : D.nx σ (upd H2 a uo) := k P σ _ sr3 (((Frm.of_same s1).trans (Frm.of_same s2)).trans fm)
  rcases hst with ⟨p, xs, n, m, z1, z2, z3, z4, z5⟩ | ⟨b, H', z1, z2, z3⟩
  · exact .inl ⟨p, xs, n, m, z1, z2, z3, z4, by rw [z5]; exact fin⟩
  · exact .inr ⟨b, H', z1, z2, by rw [z3]; exact fin⟩

/-! ### x = y.pop() -/
def sPop (j i : Nat) : SS := fun F ρ => match cV i F ρ with
  | some (.lst xs) => (xs.getLast?).map fun d => .nx ((ρ.set i (some (.lst xs.dropLast))).set j (some d))
  | _ => none
theorem RepL.last {P : Addr → Prop} {H : Hp} {ds : List D} {vs : List V} (h : RepL P H ds vs) {d : D} (e : ds.getLast? = some d) : ∃ v, vs[vs.length - 1]? = some v ∧ Rep P H d v := by
  rw [List.getLast?_eq_getElem?] at e
  obtain ⟨v, e1, r⟩ := h.get e
  rw [h.len]
  exact ⟨v, e1, r⟩
theorem RepL.dropLast {P : Addr → Prop} {H : Hp} {ds : List D} {vs : List V} (h : RepL P H ds vs) : RepL P H ds.dropLast vs.dropLast := by
  rw [List.dropLast_eq_take, List.dropLast_eq_take, h.len]
  exact h.take _
theorem evS_pop {i j : Nat} {x y : Str} {xp yp ap cp : Pos} (hN : X.N.Nodup) (hi : X.N[i]? = some x) (hv : Vis X.env.scope x) (hd : (x == ("__debug__" : Str)) = false) (hcd : (x == ("__classdict__" : Str)) = false) (hk : kd ks i = .M)
    (hj : X.N[j]? = some y) (hy : Loc X.env.scope y) (hkj : kd ks j = .F) (hf : X.fn y = true ∨ X.env.scope.names.lookup y = some .local)
    (hbase : attributeBase (.Name x xp) "pop" X.env (eval (.Name x xp) X.env) = eval (.Name x xp) X.env) (hline : (ap.endLine == cp.line) = true) :
    EvS X ks F (.Assign [.Name y yp] (.Call (.Attribute (.Name x xp) "pop" ap) [] [] cp) pos) (sPop j i) := by
  refine ⟨tAsg (tBM0 X.K "list" rPop (tVar i)) (gName j), ps_set hN hj hy (pe_bm0 PySem.F.plainAttrs_list PySem.F.slot_list_pop PySem.F.type_list_pop mt_pop (pe_var hi hv hd hcd) hbase hline) rfl hf, fun Hb Pe P H σ ρ D r sr ev k => ?_⟩
  simp only [sPop] at ev
  split at ev
  · rename_i xs e1
    obtain ⟨d, e2, rfl⟩ := Option.map_eq_some_iff.mp ev
    have e3 := cV_some e1
    obtain ⟨v, e4, r4⟩ := sr.er.2 i _ e3
    rw [hk] at r4
    simp only [RepK, RepB] at r4
    obtain ⟨a, vs, rfl, h1, h2⟩ := r4
    obtain ⟨w, e5, r5⟩ := h2.last e2
    obtain ⟨b, q1, q2, q3, q4⟩ := sr.own i _ (.inl hk) e3 rfl
    rw [e4] at q1; cases q1
    refine ⟨.ref a, e4, .inl ⟨rfl, vs, .inl (.inl h1)⟩, a, vs, w, rfl, rfl, h1, e5, ?_⟩
    obtain ⟨sr1, fm⟩ := sr.mut (d' := .lst xs.dropLast) (o := .lst vs.dropLast) hk e3 rfl e4 trivial (by
      simp only [RepB]
      exact ⟨a, _, rfl, upd_same, RepL.chg (q4 hk) q3 _ _ h2.dropLast⟩) rfl
    have r6 : Rep P (upd H a (.lst vs.dropLast)) d w := Rep.chg (q4 hk) q3 _ _ r5
    exact k P _ _ (sr1.set (i := j) (by unfold Fits; rw [hkj]; exact r6)) (fm.trans (Frm.set (.inl hkj)))
  · cases ev

/-! ### if, pass, return -/
def sIf (c : SB) (f g : SS) : SS := fun F ρ => (c F ρ).bind fun b => if b then f F ρ else g F ρ
theorem evS_if {c : Expr} {a b : List Stmt} {h : SB} {f g : SS} (hc : EvT X ks F c h) (ha : EvSs X ks F a f) (hb : EvSs X ks F b g) : EvS X ks F (.If c a b pos) (sIf h f g) := by
  obtain ⟨t, p, q⟩ := hc.ex
  obtain ⟨ta, pa, qa⟩ := ha.ex
  obtain ⟨tb, pb, qb⟩ := hb.ex
  refine ⟨tIfS t ta tb, ps_if p pa pb, fun Hb Pe P H σ ρ D r sr ev k => ?_⟩
  obtain ⟨b, e1, e2⟩ := Option.bind_eq_some_iff.mp ev
  refine q σ H P ρ _ b sr.fre sr.er e1 fun H1 s1 => ?_
  cases b with
  | true => rw [if_pos rfl] at e2 ⊢; exact qa Hb Pe P H1 σ ρ D r (sr.same s1) e2 (k.after (Frm.of_same s1))
  | false => rw [if_neg Bool.false_ne_true] at e2 ⊢; exact qb Hb Pe P H1 σ ρ D r (sr.same s1) e2 (k.after (Frm.of_same s1))
theorem evS_pass : EvS X ks F (.Pass pos) sNil := ⟨tNext, ps_pass, fun Hb Pe P H σ ρ D r sr e k => by cases e; exact k P σ H sr Frm.refl⟩
theorem evS_doc {x j pos'} : EvS X ks F (.Expr (.Constant (.str x) j pos) pos') sNil := ⟨tNext, ps_doc, fun Hb Pe P H σ ρ D r sr e k => by cases e; exact k P σ H sr Frm.refl⟩
/-- own slots are shared from now on -/
def frzK : Kind → Kind
  | .M => .F
  | .L => .F
  | k => k
def frz (ks : Ks) : Ks := ks.map frzK
theorem kd_frz {i : Nat} : kd (frz ks) i = frzK (kd ks i) := by
  unfold kd frz
  rw [List.getD_eq_getElem?_getD, List.getD_eq_getElem?_getD, List.getElem?_map]
  cases ks[i]? <;> rfl
theorem SR.frozen {mg : Str → Option Value} {Hb : Hp} {Pe P : Addr → Prop} {H : Hp} {σ : L2.St} {ρ : RE.Env} (h : SR mg Hb Pe P ks H σ ρ) : ER mg Pe (frz ks) H σ ρ := by
  refine ⟨h.er.1, fun i d e => ?_⟩
  obtain ⟨v, e1, r⟩ := h.er.2 i d e
  refine ⟨v, e1, ?_⟩
  rw [kd_frz]
  have own : kd ks i = .M ∨ kd ks i = .L → RepB mg P H d v → (∀ g, d ≠ .fn g) → Rep Pe H d v := fun hk rb nf => by
    cases hm : isMut d with
    | true =>
      obtain ⟨a, q1, q2, _⟩ := h.own i d hk e hm
      rw [e1] at q1; cases q1
      have pa := h.freE a q2
      cases d <;> simp only [isMut] at hm <;> first | (cases hm; done) | skip
      · simp only [RepB] at rb
        obtain ⟨b, vs, eb, h1, h2⟩ := rb
        cases eb
        simp only [Rep]
        exact ⟨a, vs, rfl, pa, h1, h2.weak h.sub⟩
      · simp only [RepB] at rb
        obtain ⟨b, ps, eb, h1, h2⟩ := rb
        cases eb
        simp only [Rep]
        exact ⟨a, ps, rfl, pa, h1, h2.weak h.sub⟩
    | false =>
      cases d <;> simp only [isMut] at hm <;> first | (cases hm; done) | skip
      all_goals first | exact absurd rfl (nf _) | (simp only [RepB] at rb; simp only [Rep]; exact rb) | (simp only [RepB] at rb; exact Rep.weak h.sub rb)
  cases hk : kd ks i with
  | F => rw [hk] at r; exact Rep.weak h.sub r
  | B => rw [hk] at r; exact RepB.weak h.sub r
  | M => rw [hk] at r; exact own (.inl hk) r fun g z => h.nofn i g (.inl hk) (by rw [e, z])
  | L => rw [hk] at r; exact own (.inr hk) r fun g z => h.nofn i g (.inr hk) (by rw [e, z])
def sRet (f : SE) : SS := fun F ρ => (f F ρ).map (.rt false)
theorem evS_ret {e : Expr} {f : SE} (h : EvE X (frz ks) F e f) : EvS X ks F (.Return (some e) pos) (sRet f) := by
  obtain ⟨t, p, q⟩ := h.ex
  refine ⟨tRet t, ps_ret p, fun Hb Pe P H σ ρ D r sr ev k => ?_⟩
  obtain ⟨d, e1, rfl⟩ := Option.map_eq_some_iff.mp ev
  exact q σ H Pe ρ _ d (fun a ha => sr.sub a (sr.fre a ha)) sr.frozen e1 fun v H' s r => k v H' (sr.keep.trans s) r fun z => nomatch z
def sRetN : SS := fun _ _ => some (.rt true .non)
theorem evS_retN : EvS X ks F (.Return none pos) sRetN := ⟨tRetN, ps_retN, fun Hb Pe P H σ ρ D r sr ev k => by cases ev; exact k _ H sr.keep (by simp only [Rep]) fun _ => trivial⟩
/-- e gives f, at a def's end: a new object where it is a list or dict -/
structure EvR (X : Cx) (ks : Ks) (F : Fn) (e : Expr) (f : SE) : Prop where
  ex : ∃ t : TE, PE X e t ∧ ∀ Hb Pe P H σ ρ (Q : VK) d, SR X.mg Hb Pe P ks H σ ρ → f F ρ = some d → (∀ v H', Same H H' → Rep Pe H' d v ∧ TopNew Hb d v → Q v H') → t σ H Q
theorem EvN.toR {e : Expr} {f : SE} (h : EvN X (frz ks) F e f) : EvR X ks F e f := by
  obtain ⟨t, p, q⟩ := h.ex
  exact ⟨t, p, fun Hb Pe P H σ ρ Q d sr ev k => q σ H Pe ρ _ d (fun a ha => sr.sub a (sr.fre a ha)) sr.frozen ev fun v H' s r => k v H' s ⟨r.1, r.2.back sr.keep⟩⟩
theorem evR_var {i : Nat} {x : Str} {pos : Pos} (hN : X.N[i]? = some x) (hv : Vis X.env.scope x) (hk : kd ks i = .M) (hd : (x == ("__debug__" : Str)) = false) (hcd : (x == ("__classdict__" : Str)) = false) : EvR X ks F (.Name x pos) (cV i) := by
  refine ⟨tVar i, pe_var hN hv hd hcd, fun Hb Pe P H σ ρ Q d sr ev k => ?_⟩
  have e1 := cV_some ev
  obtain ⟨v, e, r⟩ := sr.frozen.2 i d e1
  rw [kd_frz, hk] at r
  refine ⟨v, e, k v H (Same.refl H) ⟨r, ?_⟩⟩
  cases hm : isMut d with
  | false => cases d <;> simp only [isMut] at hm <;> first | trivial | (cases hm; done)
  | true =>
    obtain ⟨a, q1, q2, _⟩ := sr.own i d (.inl hk) e1 hm
    rw [e] at q1; cases q1
    cases d <;> simp only [isMut] at hm <;> first | (cases hm; done) | (simp only [TopNew]; intro b eb; cases eb; exact q2)
theorem evR_if {c a b : Expr} {h : SB} {f g : SE} {pos : Pos} (hc : EvT X (frz ks) F c h) (ha : EvR X ks F a f) (hb : EvR X ks F b g) : EvR X ks F (.IfExp c a b pos) (cIf h f g) := by
  obtain ⟨t, p, q⟩ := hc.ex
  obtain ⟨ta, pa, qa⟩ := ha.ex
  obtain ⟨tb, pb, qb⟩ := hb.ex
  refine ⟨tIf t ta tb, pe_ifExp p pa pb, fun Hb Pe P H σ ρ Q d sr ev k => ?_⟩
  obtain ⟨b, e1, ev1⟩ := Option.bind_eq_some_iff.mp ev
  refine q σ H Pe ρ _ b (fun a ha => sr.sub a (sr.fre a ha)) sr.frozen e1 fun H1 s1 => ?_
  cases b with
  | true => rw [if_pos rfl] at ev1 ⊢; exact qa Hb Pe P H1 σ ρ Q d (sr.same s1) ev1 fun v H2 s2 r2 => k v H2 (s1.trans s2) r2
  | false => rw [if_neg Bool.false_ne_true] at ev1 ⊢; exact qb Hb Pe P H1 σ ρ Q d (sr.same s1) ev1 fun v H2 s2 r2 => k v H2 (s1.trans s2) r2
def sRetT (f : SE) : SS := fun F ρ => (f F ρ).map (.rt true)
theorem evS_retR {e : Expr} {f : SE} (h : EvR X ks F e f) : EvS X ks F (.Return (some e) pos) (sRetT f) := by
  obtain ⟨t, p, q⟩ := h.ex
  refine ⟨tRet t, ps_ret p, fun Hb Pe P H σ ρ D r sr ev k => ?_⟩
  obtain ⟨d, e1, rfl⟩ := Option.map_eq_some_iff.mp ev
  exact q Hb Pe P H σ ρ _ d sr e1 fun v H' s r => k v H' (sr.keep.trans s) r.1 fun _ => r.2
end
end RE
/-! RE12: for, while, parallel assignments. -/
namespace RE
open PySem PySem.Spec PyProof.Rows L2
section
variable {X : Cx} {ks ks' : Ks} {F : Fn} {pos : Pos}
/-- some own slots are not changed for now -/
def Dem (ks ks' : Ks) : Prop := ∀ i, kd ks' i = kd ks i ∨ (kd ks i = .M ∧ kd ks' i = .L)
theorem Dem.refl : Dem ks ks := fun _ => .inl rfl
theorem Dem.ml (h : Dem ks ks') {i : Nat} : (kd ks' i = .M ∨ kd ks' i = .L) ↔ (kd ks i = .M ∨ kd ks i = .L) := by
  rcases h i with e | ⟨e1, e2⟩
  · rw [e]
  · rw [e1, e2]; simp
theorem Dem.b (h : Dem ks ks') {i : Nat} : kd ks' i = .B ↔ kd ks i = .B := by
  rcases h i with e | ⟨e1, e2⟩
  · rw [e]
  · rw [e1, e2]; simp
theorem SR.dem {mg : Str → Option Value} {Hb : Hp} {Pe P : Addr → Prop} {H : Hp} {σ : L2.St} {ρ : RE.Env} (h : SR mg Hb Pe P ks H σ ρ) (dm : Dem ks ks') : SR mg Hb Pe P ks' H σ ρ where
  freE := h.freE
  sub := h.sub
  fre := h.fre
  keep := h.keep
  er := ⟨h.er.1, fun i d e => by
    obtain ⟨v, e1, r⟩ := h.er.2 i d e
    refine ⟨v, e1, ?_⟩
    rcases dm i with q | ⟨q1, q2⟩
    · rw [q]; exact r
    · rw [q2]; rw [q1] at r; exact r⟩
  own := fun i d hk e m => by
    obtain ⟨a, h1, h2, h3, h4⟩ := h.own i d (dm.ml.mp hk) e m
    refine ⟨a, h1, h2, h3, fun q => h4 ?_⟩
    rcases dm i with z | ⟨z1, z2⟩
    · rw [← z]; exact q
    · exact z1
  dist := fun i j d e a ij hi hj => h.dist i j d e a ij (dm.ml.mp hi) (dm.ml.mp hj)
  bord := fun i d a hk => h.bord i d a (dm.b.mp hk)
  nofn := fun i g hk => h.nofn i g (dm.ml.mp hk)
theorem Top.dem (dm : Dem ks ks') {σ : L2.St} {ρ : RE.Env} {P : Addr → Prop} {a : Addr} (h : Top ks σ ρ P a) : Top ks' σ ρ P a := by
  rcases h with h | ⟨i, d, hk, r⟩
  · exact .inl h
  · refine .inr ⟨i, d, ?_, r⟩
    rcases dm i with z | ⟨z1, z2⟩
    · rw [z]; exact hk
    · rw [z1] at hk; rcases hk with y | y <;> cases y
theorem Frm.undem {P P' : Addr → Prop} {H H' : Hp} {σ σ' : L2.St} {ρ ρ' : RE.Env} (dm : Dem ks ks') (h : Frm ks' P H σ ρ P' H' σ' ρ') : Frm ks P H σ ρ P' H' σ' ρ' where
  sub := h.sub
  ext := h.ext
  slots := fun i hk => h.slots i (by
    rcases dm i with z | ⟨z1, z2⟩
    · rw [z]; exact hk
    · rw [z1] at hk; rcases hk with y | y <;> cases y)
  objs := fun b o e hx => h.objs b o e (hx.imp_left (Top.dem dm))
  there := h.there
/-- back to the kinds before -/
theorem SR.undem {mg : Str → Option Value} {Hb : Hp} {Pe P P' : Addr → Prop} {H H' : Hp} {σ σ' : L2.St} {ρ ρ' : RE.Env} (h : SR mg Hb Pe P ks H σ ρ) (dm : Dem ks ks') (f : Frm ks' P H σ ρ P' H' σ' ρ') (g : SR mg Hb Pe P' ks' H' σ' ρ') : SR mg Hb Pe P' ks H' σ' ρ' where
  freE := g.freE
  sub := g.sub
  fre := g.fre
  keep := g.keep
  er := ⟨g.er.1, fun i d e => by
    obtain ⟨v, e1, r⟩ := g.er.2 i d e
    refine ⟨v, e1, ?_⟩
    rcases dm i with q | ⟨q1, q2⟩
    · rw [← q]; exact r
    · rw [q1]; rw [q2] at r; exact r⟩
  own := fun i d hk e m => by
    obtain ⟨a, h1, h2, h3, h4⟩ := g.own i d (dm.ml.mpr hk) e m
    refine ⟨a, h1, h2, h3, fun q => ?_⟩
    rcases dm i with z | ⟨z1, z2⟩
    · exact h4 (by rw [z]; exact q)
    · obtain ⟨e1, e2⟩ := f.slots i (.inl z2)
      have er : ρ[i]? = some (some d) := by rw [← e2]; exact e
      have es : σ[i]? = some (some (.ref a)) := by rw [← e1]; exact h1
      obtain ⟨b, y1, y2, y3, y4⟩ := h.own i d (.inl z1) er m
      rw [es] at y1; cases y1
      have c := y4 z1
      cases ho : H a with
      | none => rw [ho] at c; exact c.elim
      | some o =>
        rw [f.objs a o ho (.inl (.inr ⟨i, d, .inl z2, es, er, m⟩)), ← ho]
        exact c
  dist := fun i j d e a ij hi hj => g.dist i j d e a ij (dm.ml.mpr hi) (dm.ml.mpr hj)
  bord := fun i d a hk => g.bord i d a (dm.b.mpr hk)
  nofn := fun i q hk => g.nofn i q (dm.ml.mpr hk)

/-! ### for -/
def forD (asg : SG) (body : RE.Env → Option Res) : List D → RE.Env → Option Res
  | [], ρ => some (.nx ρ)
  | d :: ds, ρ => (asg d ρ).bind fun ρ1 => (body ρ1).bind fun r => match r with | .nx ρ2 => forD asg body ds ρ2 | .rt w v => some (.rt w v)
def sFor (fi : SL) (asg : SG) (body : SS) : SS := fun F ρ => (fi F ρ).bind fun ds => forD asg (body F) ds ρ
theorem evS_for {tg iter : Expr} {b : List Stmt} {fi : SL} {is : List Nat} {asg : SG} {body : SS} (hp : PassesOwn (model X.prog X.w) X.A X.env X.xe) (hc : X.calm = true) (dm : Dem ks ks') (hi : EvI X ks' F tg iter fi) (hg : EvG X ks' tg is asg) (ht : Touches asg is) (hF : ∀ j ∈ is, kd ks' j = .F) (hb : EvSs X ks' F b body)
    (hs : ∀ x, foldedSetIterable iter X.env x = pure x) : EvS X ks F (.For tg iter b [] pos) (sFor fi asg body) := by
  obtain ⟨wi, pi, qi⟩ := hi.ex
  obtain ⟨tb, pb, qb⟩ := hb.ex
  refine ⟨tFor wi (tG X.mg ks' is asg) tb, ps_for hp hc pi hg.can pb hs, fun Hb Pe P H σ ρ D r sr ev k => ?_⟩
  obtain ⟨ds, e1, e2⟩ := Option.bind_eq_some_iff.mp ev
  have sr' := sr.dem dm
  refine qi σ H P ρ _ ds sr'.fre sr'.er e1 fun J H1 src s1 wk tp => ?_
  have sr1 := sr'.same s1
  refine for_it (n := ds.length) (G := fun H2 => ∃ P2, (∀ a, H1 a ≠ none → P a → P2 a) ∧ Kept P2 src H1 H2) (Y := fun i H2 x H3 => ∀ P2, (∀ a, H1 a ≠ none → P a → P2 a) → Kept P2 src H1 H2 → Same H2 H3 ∧ ∃ d, ds[i]? = some d ∧ Rep P2 H3 d x)
    ⟨fun i H2 hi ⟨P2, h1, h2⟩ => (wk P2 h1).goes H2 i h2 hi, fun H2 ⟨P2, h1, h2⟩ => (wk P2 h1).stops H2 h2, fun i H2 x H3 hi _ y P2 h1 h2 => (wk P2 h1).yields H2 i x H3 h2 hi y⟩
    (fun i σ2 H2 => ∃ P2 ρ2, SR X.mg Hb Pe P2 ks' H2 σ2 ρ2 ∧ Frm ks' P H1 σ ρ P2 H2 σ2 ρ2 ∧ forD asg (body F) (ds.drop i) ρ2 = some r) ?_ ?_ ?_ ?_
  · exact ⟨P, ρ, sr1, Frm.refl, e2⟩
  · rintro i σ2 H2 hi ⟨P2, ρ2, sr2, fm, ev2⟩
    refine ⟨P2, fm.ext, fun b o eb hx => fm.objs b o eb ?_⟩
    rcases hx with z | z | z
    · exact .inl (.inl (fm.sub b z))
    · exact .inr z
    · exact .inl (tp b z)
  · rintro i x σ2 H2 H3 hi ⟨P2, ρ2, sr2, fm, ev2⟩ y
    obtain ⟨s3, d, ed, rd⟩ := y P2 fm.ext fun b o eb hx => fm.objs b o eb (by
      rcases hx with z | z | z
      · exact .inl (.inl (fm.sub b z))
      · exact .inr z
      · exact .inl (tp b z))
    have ed2 : ds.drop i = d :: ds.drop (i + 1) := by
      have hlt := (List.getElem?_eq_some_iff.mp ed).1
      rw [List.drop_eq_getElem_cons hlt]
      congr 1
      exact (List.getElem?_eq_some_iff.mp ed).2
    rw [ed2] at ev2
    obtain ⟨ρ3, e3, e4⟩ := Option.bind_eq_some_iff.mp ev2
    obtain ⟨r3, e5, e6⟩ := Option.bind_eq_some_iff.mp e4
    have sr3 := sr2.same s3
    refine ⟨P2, ρ2, ρ3, d, rd, sr3.er, e3, fun σ3 er3 hl hj => ?_⟩
    have sr4 := sr3.assign hF er3 hj (ht d ρ2 ρ3 e3).2
    have fm4 : Frm ks' P H1 σ ρ P2 H3 σ3 ρ3 := (fm.trans (Frm.of_same s3)).trans (Frm.assign hF hj (ht d ρ2 ρ3 e3).2)
    refine qb Hb Pe P2 H3 σ3 ρ3 _ r3 sr4 e5 ?_
    cases r3 with
    | nx ρ5 => exact fun P5 σ5 H5 sr5 fm5 => ⟨P5, ρ5, sr5, fm4.trans fm5, e6⟩
    | rt w v =>
      cases e6
      exact k
  · rintro σ2 H2 ⟨P2, ρ2, sr2, fm, ev2⟩
    rw [List.drop_length] at ev2
    cases ev2
    have fm' := (Frm.of_same (ks := ks') (P := P) (σ := σ) (ρ := ρ) s1).trans fm
    exact k P2 σ2 H2 (sr.undem dm fm' sr2) (Frm.undem dm fm')

/-! ### while -/
def whileD (c : RE.Env → Option Bool) (body : RE.Env → Option Res) : Nat → RE.Env → Option Res
  | 0, _ => none
  | n + 1, ρ => (c ρ).bind fun b => if b then (body ρ).bind fun r => match r with | .nx ρ2 => whileD c body n ρ2 | .rt w v => some (.rt w v) else some (.nx ρ)
open Classical in
/-- as many turns as it takes -/
noncomputable def sWhile (c : SB) (body : SS) : SS := fun F ρ => if h : ∃ n r, whileD (c F) (body F) n ρ = some r then some (Classical.choose (Classical.choose_spec h)) else none
theorem whileD_mono (c : RE.Env → Option Bool) (body : RE.Env → Option Res) : ∀ n ρ r, whileD c body n ρ = some r → whileD c body (n + 1) ρ = some r
  | 0, _, _, h => by cases h
  | n + 1, ρ, r, h => by
    rw [whileD] at h ⊢
    obtain ⟨b, e1, e2⟩ := Option.bind_eq_some_iff.mp h
    refine Option.bind_eq_some_iff.mpr ⟨b, e1, ?_⟩
    cases b with
    | false => exact e2
    | true =>
      rw [if_pos rfl] at e2 ⊢
      obtain ⟨q, e3, e4⟩ := Option.bind_eq_some_iff.mp e2
      refine Option.bind_eq_some_iff.mpr ⟨q, e3, ?_⟩
      cases q with
      | nx ρ2 => exact whileD_mono c body n ρ2 r e4
      | rt w v => exact e4
theorem whileD_le (c : RE.Env → Option Bool) (body : RE.Env → Option Res) {n m : Nat} (h : n ≤ m) {ρ : RE.Env} {r : Res} (e : whileD c body n ρ = some r) : whileD c body m ρ = some r := by
  induction h with
  | refl => exact e
  | step _ ih => exact whileD_mono c body _ ρ r ih
theorem sWhile_of {c : SB} {body : SS} {F : Fn} {n : Nat} {ρ : RE.Env} {r : Res} (e : whileD (c F) (body F) n ρ = some r) : sWhile c body F ρ = some r := by
  have h : ∃ n r, whileD (c F) (body F) n ρ = some r := ⟨n, r, e⟩
  unfold sWhile
  rw [dif_pos h]
  have e2 := Classical.choose_spec (Classical.choose_spec h)
  have a1 := whileD_le (c F) (body F) (Nat.le_max_left n (Classical.choose h)) e
  have a2 := whileD_le (c F) (body F) (Nat.le_max_right n (Classical.choose h)) e2
  rw [a1] at a2
  exact a2.symm
theorem sWhile_some {c : SB} {body : SS} {F : Fn} {ρ : RE.Env} {r : Res} (e : sWhile c body F ρ = some r) : ∃ n, whileD (c F) (body F) n ρ = some r := by
  unfold sWhile at e
  split at e
  · rename_i h
    cases e
    exact ⟨_, Classical.choose_spec (Classical.choose_spec h)⟩
  · cases e
theorem evS_while {c : Expr} {b : List Stmt} {fc : SB} {body : SS} (hp : PassesOwn (model X.prog X.w) X.A X.env X.xe) (hc : EvT X ks F c fc) (hb : EvSs X ks F b body) : EvS X ks F (.While c b [] pos) (sWhile fc body) := by
  obtain ⟨tc, pc, qc⟩ := hc.ex
  obtain ⟨tb, pb, qb⟩ := hb.ex
  refine ⟨tWhile tc tb, ps_while hp pc pb, fun Hb Pe P H σ ρ D r sr ev k => ?_⟩
  obtain ⟨n, e⟩ := sWhile_some ev
  refine ⟨fun n σ2 H2 => ∃ P2 ρ2, SR X.mg Hb Pe P2 ks H2 σ2 ρ2 ∧ Frm ks P H σ ρ P2 H2 σ2 ρ2 ∧ whileD (fc F) (body F) n ρ2 = some r, ⟨n, P, ρ, sr, Frm.refl, e⟩, ?_⟩
  rintro m σ2 H2 ⟨P2, ρ2, sr2, fm, e2⟩
  cases m with
  | zero => cases e2
  | succ m =>
    rw [whileD] at e2
    obtain ⟨bb, e3, e4⟩ := Option.bind_eq_some_iff.mp e2
    refine qc σ2 H2 P2 ρ2 _ bb sr2.fre sr2.er e3 fun H3 s3 => ?_
    have sr3 := sr2.same s3
    have fm3 := fm.trans (Frm.of_same s3)
    cases bb with
    | false =>
      rw [if_neg Bool.false_ne_true] at e4
      refine iteF ?_
      cases e4
      exact k P2 σ2 H3 sr3 fm3
    | true =>
      rw [if_pos rfl] at e4
      refine iteT ?_
      obtain ⟨q, e5, e6⟩ := Option.bind_eq_some_iff.mp e4
      refine ⟨fun σ' H' => ∃ P2 ρ2, SR X.mg Hb Pe P2 ks H' σ' ρ2 ∧ Frm ks P H σ ρ P2 H' σ' ρ2 ∧ whileD (fc F) (body F) m ρ2 = some r, fun σ' H' h => ⟨m, Nat.lt_succ_self m, h⟩, ?_⟩
      refine qb Hb Pe P2 H3 σ2 ρ2 _ q sr3 e5 ?_
      cases q with
      | nx ρ5 => exact fun P5 σ5 H5 sr5 fm5 => ⟨P5, ρ5, sr5, fm3.trans fm5, e6⟩
      | rt w v => cases e6; exact k

/-! ### x += e, of whole numbers -/
def sAug (i : Nat) (f : SE) : SS := fun F ρ => (cV i F ρ).bind fun d => (f F ρ).bind fun e => match d, e with
  | .int m, .int n => some (.nx (ρ.set i (some (.int (m + n)))))
  | _, _ => none
theorem evS_aug {i : Nat} {x : Str} {e : Expr} {f : SE} {p : Pos} (hN : X.N.Nodup) (hi : X.N[i]? = some x) (hx : Loc X.env.scope x) (hk : kd ks i = .F) (he : EvP X ks F e f) (hf : X.fn x = true ∨ X.env.scope.names.lookup x = some .local) : EvS X ks F (.AugAssign (.Name x p) .Add e pos) (sAug i f) := by
  obtain ⟨t, pt, q⟩ := he.ex
  refine ⟨tAug i t (ipI fun i j => i + j), ps_aug hN hi hx pt ip_add hf, fun Hb Pe P H σ ρ D r sr ev k => ?_⟩
  obtain ⟨d, e1, ev1⟩ := Option.bind_eq_some_iff.mp ev
  obtain ⟨y, e2, ev2⟩ := Option.bind_eq_some_iff.mp ev1
  split at ev2
  · rename_i m n
    cases ev2
    obtain ⟨v, e3, r3⟩ := sr.er.2 i _ (cV_some e1)
    rw [hk] at r3
    simp only [RepK, Rep] at r3
    subst r3
    refine ⟨_, e3, q σ H P ρ _ _ sr.fre sr.er e2 fun w H1 s1 r1 => ?_⟩
    simp only [RepB] at r1
    subst r1
    refine ⟨m, n, rfl, rfl, ?_⟩
    exact k P _ H1 ((sr.same s1).set (i := i) (by unfold Fits; rw [hk]; simp only [Rep])) ((Frm.of_same s1).trans (Frm.set (.inl hk)))
  · cases ev2
end
end RE
/-! RE12b: list comprehensions with two fors. -/
namespace RE
open PySem PySem.Spec PyProof.Rows L2

/-- the canonical reading of a walk -/
def tI (mg : Str → Option Value) (ks : Ks) (F : Fn) (fi : SL) : TI := fun σ H R => ∃ (P : Addr → Prop) (ρ : RE.Env) (ds : List D), Fre P H ∧ ER mg P ks H σ ρ ∧ fi F ρ = some ds ∧
  ∀ J H1 src, Same H H1 → (∀ P', (∀ a, H1 a ≠ none → P a → P' a) → WalkD P' src J ds H1) → (∀ a ∈ src, Top ks σ ρ P a) → R J H1
theorem EvI.can {X : Cx} {ks : Ks} {F : Fn} {tg e : Expr} {f : SL} (h : EvI X ks F tg e f) : PI X tg e (tI X.mg ks F f) := by
  obtain ⟨t, p, q⟩ := h.ex
  exact ⟨fun pins s σ H R I ⟨P, ρ, ds, fr, er, ev, k⟩ => p.run pins s σ H R I (q σ H P ρ R ds fr er ev k)⟩
/-- a walk by an invariant, whatever a turn does -/
theorem it_gen {J : It} {n : Nat} {Pv : Nat → Hp → Prop} {Qd : Hp → Prop} {S : V → Hp → (Hp → Prop) → Prop} {H0 : Hp} (h0 : Pv 0 H0) (goes : ∀ i H, i < n → Pv i H → J.go i H) (stops : ∀ H, Pv n H → J.stop n H ∧ Qd H)
    (hs : ∀ i x H H', i < n → Pv i H → J.yld i H x H' → S x H' (Pv (i + 1))) :
    ∃ W : Nat → Nat → Hp → Prop, (∃ m, W 0 m H0) ∧ ∀ i m H, W i m H → (J.stop i H ∧ Qd H) ∨ (J.go i H ∧ ∃ Nx : Hp → Prop, (∀ H', Nx H' → ∃ m', m' < m ∧ W (i + 1) m' H') ∧ ∀ x H', J.yld i H x H' → S x H' Nx) := by
  refine ⟨fun i m H => m + i = n ∧ Pv i H, ⟨n, rfl, h0⟩, ?_⟩
  rintro i m H ⟨hm, p⟩
  by_cases hi : i < n
  · exact .inr ⟨goes i H hi p, Pv (i + 1), fun H' p' => ⟨m - 1, by omega, by omega, p'⟩, fun x H' y => hs i x H H' hi p y⟩
  · obtain rfl : i = n := by omega
    exact .inl (stops H p)
/-- one item of the outer walk -/
def lcTwo (vs1 : List Nat) (asg : SG) (t : SB) (fi1 : SL) (asg1 : SG) (t1 : SB) (e : SE) (F : Fn) (ρ : RE.Env) (d : D) : Option (List D) :=
  (asg d ρ).bind fun ρ' => (t F ρ').bind fun b => if b then (fi1 F ρ').bind fun ds1 => lcAll (lcOne asg1 t1 e F (wipeE ρ' vs1)) ds1 else some []
def cLc2 (own vs1 : List Nat) (fi : SL) (asg : SG) (t : SB) (fi1 : SL) (asg1 : SG) (t1 : SB) (e : SE) : SE := fun F ρ => (fi F ρ).bind fun ds => (lcAll (lcTwo vs1 asg t fi1 asg1 t1 e F (wipeE ρ own)) ds).bind mkLst
theorem evNS_lc2 {X : Cx} {ks ks' : Ks} {F : Fn} {elt tg iter tg1 iter1 : Expr} {ifs ifs1 : List Expr} {scope : Scope} {own : List (Str × Nat)} {vs1 : List Nat} {pos : Pos} {fi fi1 : SL} {is is1 : List Nat} {asg asg1 : SG} {ft ft1 : SB} {fe : SE} (hc : X.calm = true) (hN : X.N.Nodup)
    (hi : EvI X ks F tg iter fi) (ok : BlkOk X.N X.env.scope scope own) (his : ∀ j ∈ is, j ∈ own.map (·.2)) (hv : ∀ j ∈ vs1, j ∈ own.map (·.2)) (his1 : ∀ j ∈ is1, j ∈ vs1) (hk : ∀ i, i ∉ own.map (·.2) → kd ks' i = kd ks i) (hto : Touches asg is) (hF : ∀ j ∈ is, kd ks' j = .F)
    (hg : ∀ (s : Shared) (H : Hp) (C : Addr) (cl : List (Str × Addr)) (fp : List Addr), EvG (X.blk s H scope (compEnvC scope cl C X.env) fp) ks' tg is asg)
    (ht : ∀ (s : Shared) (H : Hp) (C : Addr) (cl : List (Str × Addr)) (fp : List Addr), EvTs (X.blk s H scope (compEnvC scope cl C X.env) fp) ks' F ifs ft)
    (hi1 : ∀ (s : Shared) (H : Hp) (C : Addr) (cl : List (Str × Addr)) (fp : List Addr), EvI (X.blk s H scope (compEnvC scope cl C X.env) fp) ks' F tg1 iter1 fi1)
    (hg1 : ∀ (s : Shared) (H : Hp) (C : Addr) (cl : List (Str × Addr)) (fp : List Addr), EvG (X.blk s H scope (compEnvC scope cl C X.env) fp) ks' tg1 is1 asg1)
    (ht1 : ∀ (s : Shared) (H : Hp) (C : Addr) (cl : List (Str × Addr)) (fp : List Addr), EvTs (X.blk s H scope (compEnvC scope cl C X.env) fp) ks' F ifs1 ft1)
    (he : ∀ (s : Shared) (H : Hp) (C : Addr) (cl : List (Str × Addr)) (fp : List Addr), EvE (X.blk s H scope (compEnvC scope cl C X.env) fp) ks' F elt fe)
    (hs : ∀ x, foldedSetIterable iter X.env x = pure x) (hs1 : ∀ env x, foldedSetIterable iter1 env x = pure x) : EvNS X ks F (.ListComp elt [⟨tg, iter, ifs, 0⟩, ⟨tg1, iter1, ifs1, 0⟩] scope pos) (cLc2 (own.map (·.2)) vs1 fi asg ft fi1 asg1 ft1 fe) := by
  obtain ⟨wi, pi, q⟩ := hi.ex
  refine ⟨_, ⟨pe_lc2 (g := tG X.mg ks' is asg) (tt := tT X.mg ks' F ft) (wi1 := tI X.mg ks' F fi1) (g1 := tG X.mg ks' is1 asg1) (tt1 := tT X.mg ks' F ft1) (te := tE X.mg ks' F fe) hc hN pi ok hv (fun s H C cl fp => (hg s H C cl fp).can) (fun s H C cl fp => (ht s H C cl fp).can) (fun s H C cl fp => (hi1 s H C cl fp).can) (fun s H C cl fp => (hg1 s H C cl fp).can) (fun s H C cl fp => (ht1 s H C cl fp).can) (fun s H C cl fp => (he s H C cl fp).can) hs hs1,
    fun i y py spos hy hyl hsw => ps_setLc2 (g := tG X.mg ks' is asg) (tt := tT X.mg ks' F ft) (wi1 := tI X.mg ks' F fi1) (g1 := tG X.mg ks' is1 asg1) (tt1 := tT X.mg ks' F ft1) (te := tE X.mg ks' F fe) hc hN hy hyl hsw pi ok hv (fun s H C cl fp => (hg s H C cl fp).can) (fun s H C cl fp => (ht s H C cl fp).can) (fun s H C cl fp => (hi1 s H C cl fp).can) (fun s H C cl fp => (hg1 s H C cl fp).can) (fun s H C cl fp => (ht1 s H C cl fp).can) (fun s H C cl fp => (he s H C cl fp).can) hs hs1⟩, fun σ H P ρ Q d fr er ev k => ?_⟩
  obtain ⟨ds, e1, ev1⟩ := Option.bind_eq_some_iff.mp ev
  obtain ⟨outs, e2, ev2⟩ := Option.bind_eq_some_iff.mp ev1
  obtain ⟨rfl, hlen⟩ := mkLst_some ev2
  refine q σ H P ρ _ ds fr er e1 fun J H1 src s1 wk top Dl hD => ?_
  have fr1 := fr.same s1
  have er1 := er.same s1
  have wk := wk (fun b => P b ∧ b ≠ Dl) fun a ha pa => ⟨pa, fun e => ha (e ▸ hD)⟩
  have kept : ∀ H2, (∀ b o, H1 b = some o → H2 b = some o) → Kept (fun b => P b ∧ b ≠ Dl) src H1 H2 := fun H2 h b o e _ => h b o e
  let Pv : Nat → Hp → Prop := fun i H2 => ∃ vs pre, lcAll (lcTwo vs1 asg ft fi1 asg1 ft1 fe F (wipeE ρ (own.map (·.2)))) (ds.take i) = some pre ∧ H2 Dl = some (.lst vs) ∧ RepL (fun b => P b ∧ b ≠ Dl) H2 pre vs ∧ ∀ b o, H1 b = some o → H2 b = some o
  refine it_gen (n := ds.length) (Pv := Pv) ?_ ?_ ?_ ?_
  · refine ⟨[], [], by simp [lcAll], upd_same, by simp [RepL], fun b o e => ?_⟩
    rw [upd_ne (ne_of_none e hD)]; exact e
  · rintro i H2 hi ⟨vs, pre, _, _, _, h⟩
    exact wk.goes H2 i (kept H2 h) hi
  · rintro H2 ⟨vs, pre, hpre, hDl, hr, hkp⟩
    refine ⟨wk.stops H2 (kept H2 hkp), ?_⟩
    rw [List.take_length, e2] at hpre
    cases hpre
    refine k _ H2 (s1.trans hkp) ⟨?_, ?_⟩
    · simp only [Rep]
      exact ⟨Dl, vs, rfl, fr1 Dl hD, hDl, hr.weak fun a z => z.1⟩
    · exact topNew_ref (s1.free hD)
  · rintro i x H2 H3 hi ⟨vs, pre, hpre, hDl, hr, hkp⟩ yl
    obtain ⟨s3, d, hd, rd⟩ := wk.yields H2 i x H3 (kept H2 hkp) hi yl
    have e3 : ds.take (i + 1) = ds.take i ++ [d] := by rw [List.take_add_one, hd]; rfl
    obtain ⟨pre', post, e4, e5⟩ := lcAll_take e2 (i + 1)
    have e4' := e4
    rw [e3, lcAll_snoc, hpre] at e4
    simp only [Option.bind_some] at e4
    obtain ⟨ys, e6, rfl⟩ := Option.map_eq_some_iff.mp e4
    obtain ⟨ρ', e7, e8⟩ := Option.bind_eq_some_iff.mp e6
    obtain ⟨b, e9, e10⟩ := Option.bind_eq_some_iff.mp e8
    have hD3 : H3 Dl = some (.lst vs) := s3 _ _ hDl
    have all3 : ∀ b o, H1 b = some o → H3 b = some o := fun b o e => s3 b o (hkp b o e)
    have fr3 : Fre (fun b => P b ∧ b ≠ Dl) H3 := fre_minus (fr1.same all3) (by rw [hD3]; simp)
    have er3 : ER X.mg (fun b => P b ∧ b ≠ Dl) ks' H3 (L2.wipe σ (own.map (·.2))) (wipeE ρ (own.map (·.2))) := ER.wipe (er1.mono all3 fun a ha pa => ⟨pa, fun e => ha (e ▸ hD)⟩) hk
    refine ⟨_, _, _, d, rd, er3, e7, fun σ' er' hl hj => ⟨wipe_eq hl hj his, ?_⟩⟩
    refine ⟨_, ρ', b, fr3, er', e9, fun H4 s4 => ?_⟩
    have all4 : ∀ b o, H1 b = some o → H4 b = some o := fun b o e => s4 b o (all3 b o e)
    have hD4 : H4 Dl = some (.lst vs) := s4 _ _ hD3
    have hr4 := (hr.same s3).same s4
    cases b with
    | false =>
      rw [if_neg Bool.false_ne_true] at e10
      refine iteF ?_
      cases e10
      exact ⟨vs, pre ++ [], e4', hD4, by rw [List.append_nil]; exact hr4, all4⟩
    | true =>
      rw [if_pos rfl] at e10
      refine iteT ?_
      obtain ⟨ds1, e11, e12⟩ := Option.bind_eq_some_iff.mp e10
      refine ⟨_, ρ', ds1, fr3.same s4, er'.same s4, e11, fun J1 H5 src1 s5 wk1 top1 => ?_⟩
      have hD5 : H5 Dl = some (.lst vs) := s5 _ _ hD4
      have hr5 := hr4.same s5
      have all5 : ∀ b o, H1 b = some o → H5 b = some o := fun b o e => s5 b o (all4 b o e)
      have wk1 := wk1 (fun b => P b ∧ b ≠ Dl) fun a _ pa => pa
      have nD : ∀ a ∈ src1, a ≠ Dl := by
        intro a ha
        rcases top1 a ha with h | ⟨j, dd, hkj, hσ, hρ, hmu⟩
        · exact h.2
        · have nj : j ∉ is := fun hj' => by
            rw [hF j hj'] at hkj
            rcases hkj with h | h <;> cases h
          rw [hj j nj] at hσ
          rw [(hto _ _ _ e7).2 j nj] at hρ
          obtain ⟨hρ1, nown⟩ := wipeE_some hρ
          rw [wipe_out nown] at hσ
          obtain ⟨v, hv1, rk⟩ := er1.2 j dd hρ1
          rw [hσ] at hv1
          cases hv1
          have hB := rk.toB
          have : H1 a ≠ none := by
            cases dd with
            | lst xs => obtain ⟨b, vs', e, h1⟩ := hB.lst; cases e; rw [h1.1]; simp
            | dic t kvs =>
              simp only [RepB] at hB
              obtain ⟨b, ps, e, h1, _⟩ := hB
              cases e
              exact h1.some
            | _ => cases hmu
          exact fun e => this (e ▸ hD)
      have kept1 : ∀ H6 : Hp, (∀ b o, b ≠ Dl → H5 b = some o → H6 b = some o) → Kept (fun b => P b ∧ b ≠ Dl) src1 H5 H6 := fun H6 h b o e hb => by
        refine h b o ?_ e
        rcases hb with hb | hb | hb
        · exact hb.2
        · rintro rfl
          rw [hD5] at e
          cases e
          exact hb trivial
        · exact nD b hb
      let Pw : Nat → Hp → Prop := fun j H6 => ∃ vs' pre1, lcAll (lcOne asg1 ft1 fe F (wipeE ρ' vs1)) (ds1.take j) = some pre1 ∧ H6 Dl = some (.lst vs') ∧ RepL (fun b => P b ∧ b ≠ Dl) H6 (pre ++ pre1) vs' ∧ ∀ b o, b ≠ Dl → H5 b = some o → H6 b = some o
      have pD : ∀ H6 : Hp, (∀ b o, b ≠ Dl → H5 b = some o → H6 b = some o) → ∀ b o, H1 b = some o → H6 b = some o := fun H6 h b o e => h b o (ne_of_none e hD) (all5 b o e)
      refine it_gen (n := ds1.length) (Pv := Pw) ?_ ?_ ?_ ?_
      · exact ⟨vs, [], by simp [lcAll], hD5, by rw [List.append_nil]; exact hr5, fun b o _ e => e⟩
      · rintro j H6 hjl ⟨vs', pre1, _, _, _, h⟩
        exact wk1.goes H6 j (kept1 H6 h) hjl
      · rintro H6 ⟨vs', pre1, hp1, hD6, hr6, h⟩
        refine ⟨wk1.stops H6 (kept1 H6 h), ?_⟩
        rw [List.take_length, e12] at hp1
        cases hp1
        exact ⟨vs', _, e4', hD6, hr6, pD H6 h⟩
      · rintro j y H6 H7 hjl ⟨vs', pre1, hp1, hD6, hr6, h6⟩ yl1
        obtain ⟨s7, d1, hd1, rd1⟩ := wk1.yields H6 j y H7 (kept1 H6 h6) hjl yl1
        have f3 : ds1.take (j + 1) = ds1.take j ++ [d1] := by rw [List.take_add_one, hd1]; rfl
        obtain ⟨pre1', post1, f4, f5⟩ := lcAll_take e12 (j + 1)
        have f4' := f4
        rw [f3, lcAll_snoc, hp1] at f4
        simp only [Option.bind_some] at f4
        obtain ⟨zs, f6, rfl⟩ := Option.map_eq_some_iff.mp f4
        obtain ⟨ρ1, f7, f8⟩ := Option.bind_eq_some_iff.mp f6
        obtain ⟨b1, f9, f10⟩ := Option.bind_eq_some_iff.mp f8
        have hD7 : H7 Dl = some (.lst vs') := s7 _ _ hD6
        have h7 : ∀ b o, b ≠ Dl → H5 b = some o → H7 b = some o := fun b o n e => s7 b o (h6 b o n e)
        have all7 := pD H7 h7
        have fr7 : Fre (fun b => P b ∧ b ≠ Dl) H7 := fre_minus (fr1.same all7) (by rw [hD7]; simp)
        have er5 : ER X.mg (fun b => P b ∧ b ≠ Dl) ks' H7 σ' ρ' := by
          refine ⟨er'.1, fun i2 d2 g2 => ?_⟩
          obtain ⟨v2, g3, g4⟩ := er'.2 i2 d2 g2
          refine ⟨v2, g3, ?_⟩
          by_cases hin : i2 ∈ is
          · rw [hF i2 hin] at g4 ⊢
            have g4 : Rep (fun b => P b ∧ b ≠ Dl) H3 d2 v2 := g4
            have g4 := (g4.same s4).same s5
            exact Rep.same s7 (Rep.kept (kept1 H6 h6) _ _ g4)
          · have hρ2 := (hto _ _ _ e7).2 i2 hin
            rw [g2] at hρ2
            have hσ2 := hj i2 hin
            rw [g3] at hσ2
            obtain ⟨r1, nown⟩ := wipeE_some hρ2.symm
            rw [wipe_out nown] at hσ2
            obtain ⟨v3, m1, m2⟩ := er1.2 i2 d2 r1
            rw [← hσ2] at m1
            cases m1
            rw [hk i2 nown]
            exact RepK.mono all7 (fun a ha pa => ⟨pa, fun e => ha (e ▸ hD)⟩) m2
        have er7 : ER X.mg (fun b => P b ∧ b ≠ Dl) ks' H7 (L2.wipe σ' vs1) (wipeE ρ' vs1) := ER.wipe er5 fun _ _ => rfl
        refine ⟨_, _, _, d1, rd1, er7, f7, fun σ2 er2 hl2 hj2 => ⟨wipe_eq hl2 hj2 his1, ?_⟩⟩
        refine ⟨_, ρ1, b1, fr7, er2, f9, fun H8 s8 => ?_⟩
        have h8 : ∀ b o, b ≠ Dl → H5 b = some o → H8 b = some o := fun b o n e => s8 b o (h7 b o n e)
        have hr8 := (hr6.same s7).same s8
        cases b1 with
        | false =>
          rw [if_neg Bool.false_ne_true] at f10
          refine iteF ?_
          cases f10
          exact ⟨vs', pre1 ++ [], f4', s8 _ _ hD7, by rw [List.append_nil]; exact hr8, h8⟩
        | true =>
          rw [if_pos rfl] at f10
          refine iteT ?_
          obtain ⟨y2, f11, rfl⟩ := Option.map_eq_some_iff.mp f10
          refine ⟨_, ρ1, y2, fr7.same s8, er2.same s8, f11, fun v H9 s9 r9 => ?_⟩
          have hD9 : H9 Dl = some (.lst vs') := s9 _ _ (s8 _ _ hD7)
          have rl := hr8.same s9
          refine ⟨vs', hD9, ?_, vs' ++ [v], pre1 ++ [y2], f4', upd_same, ?_, fun b o n e => ?_⟩
          · rw [rl.len]
            have e13 : outs.length = (pre ++ ys).length + post.length := by rw [e5, List.length_append]
            have e14 : ys.length = (pre1 ++ [y2]).length + post1.length := by rw [f5, List.length_append]
            rw [List.length_append] at e13
            rw [List.length_append, List.length_singleton] at e14
            rw [List.length_append]
            omega
          · rw [← List.append_assoc]
            have r6 : RepL (fun b => P b ∧ b ≠ Dl) H9 ((pre ++ pre1) ++ [y2]) (vs' ++ [v]) := rl.app (by simp only [RepL]; exact ⟨v, [], rfl, r9, rfl⟩)
            exact RepL.chg (by rw [hD9]; trivial) (fun z => z.2 rfl) _ _ r6
          · rw [upd_ne n]
            exact s9 b o (h8 b o n e)
end RE
/-! RE12c: x = [list(..) for ..] and, right behind it, x[i][j] = e. -/
namespace RE
open PySem PySem.Spec PyProof.Rows L2

def tEn (mg : Str → Option Value) (ks : Ks) (F : Fn) (f : SE) : TE := fun σ H Q => ∃ (P : Addr → Prop) (ρ : RE.Env) (d : D), Fre P H ∧ ER mg P ks H σ ρ ∧ f F ρ = some d ∧ ∀ v H', Same H H' → Rep P H' d v → TopNew H d v → Q v H'
theorem EvN.canN {X : Cx} {ks : Ks} {F : Fn} {e : Expr} {f : SE} (h : EvN X ks F e f) : PE X e (tEn X.mg ks F f) := by
  obtain ⟨t, p, q⟩ := h.ex
  exact ⟨fun pins s σ H Q I ⟨P, ρ, d, fr, er, ev, k⟩ => p.run pins s σ H Q I (q σ H P ρ Q d fr er ev fun v H' s r => k v H' s r.1 r.2)⟩
def isLst : D → Bool
  | .lst _ => true
  | _ => false
def cNL (own : List Nat) (fi : SL) (asg : SG) (fe : SE) : SE := fun F ρ => (cLc own fi asg cTrue fe F ρ).bind fun d => match d with
  | .lst ds => if ds.all isLst then some (.lst ds) else none
  | _ => none
/-- a new list of new lists, each of its own; assigned to a name on one line -/
structure EvNL (X : Cx) (ks : Ks) (F : Fn) (e : Expr) (f : SE) : Prop where
  ex : ∃ t : TE, (∀ (i : Nat) (y : Str) (py spos : Pos), X.N[i]? = some y → X.env.scope.names.lookup y = some .local → swapsWith e (some (.Name y py)) spos.line X.env = pure true → PS X (.Assign [.Name y py] e spos) (tAsg t (gName i))) ∧
    ∀ σ H, Cn X.mg H ks F f σ (fun P d v H' => ∃ (ds : List D) (Dl : Addr) (bs : List Addr), d = .lst ds ∧ v = .ref Dl ∧ H Dl = none ∧ H' Dl = some (.lst (bs.map V.ref)) ∧ RepL (fun b => P b ∧ b ≠ Dl) H' ds (bs.map V.ref) ∧ bs.Nodup ∧ ∀ b ∈ bs, H b = none ∧ b ≠ Dl) t
theorem evNL_lc {X : Cx} {ks ks' : Ks} {F : Fn} {elt tg iter : Expr} {scope : Scope} {own : List (Str × Nat)} {pos : Pos} {fi : SL} {is : List Nat} {asg : SG} {fe : SE} (hc : X.calm = true) (hN : X.N.Nodup)
    (hi : EvI X ks F tg iter fi) (ok : BlkOk X.N X.env.scope scope own) (his : ∀ j ∈ is, j ∈ own.map (·.2)) (hk : ∀ i, i ∉ own.map (·.2) → kd ks' i = kd ks i)
    (hg : ∀ (s : Shared) (H : Hp) (C : Addr) (cl : List (Str × Addr)) (fp : List Addr), EvG (X.blk s H scope (compEnvC scope cl C X.env) fp) ks' tg is asg)
    (he : ∀ (s : Shared) (H : Hp) (C : Addr) (cl : List (Str × Addr)) (fp : List Addr), EvN (X.blk s H scope (compEnvC scope cl C X.env) fp) ks' F elt fe)
    (hs : ∀ x, foldedSetIterable iter X.env x = pure x) : EvNL X ks F (.ListComp elt [⟨tg, iter, [], 0⟩] scope pos) (cNL (own.map (·.2)) fi asg fe) := by
  obtain ⟨wi, pi, q⟩ := hi.ex
  have ht : ∀ (s : Shared) (H : Hp) (C : Addr) (cl : List (Str × Addr)) (fp : List Addr), PTs (X.blk s H scope (compEnvC scope cl C X.env) fp) [] (tT X.mg ks' F cTrue) := fun s H C cl fp => (evTs_nil (X := X.blk s H scope (compEnvC scope cl C X.env) fp) (ks := ks') (F := F)).can
  refine ⟨_, fun i y py spos hy hyl hsw => ps_setLc (g := tG X.mg ks' is asg) (tt := tT X.mg ks' F cTrue) (te := tEn X.mg ks' F fe) hc hN hy hyl hsw pi ok (fun s H C cl fp => (hg s H C cl fp).can) ht (fun s H C cl fp => (he s H C cl fp).canN) hs, fun σ H P ρ Q d fr er ev k => ?_⟩
  obtain ⟨d0, e0, ev0⟩ := Option.bind_eq_some_iff.mp ev
  obtain ⟨ds, e1, ev1⟩ := Option.bind_eq_some_iff.mp e0
  obtain ⟨outs, e2, ev2⟩ := Option.bind_eq_some_iff.mp ev1
  obtain ⟨rfl, hlen⟩ := mkLst_some ev2
  simp only at ev0
  split at ev0
  · rename_i hall
    cases ev0
    rw [List.all_eq_true] at hall
    refine q σ H P ρ _ ds fr er e1 fun J H1 src s1 wk top Dl hD => ?_
    have fr1 := fr.same s1
    have er1 := er.same s1
    have wk := wk (fun b => P b ∧ b ≠ Dl) fun a ha pa => ⟨pa, fun e => ha (e ▸ hD)⟩
    have kept : ∀ H2, (∀ b o, H1 b = some o → H2 b = some o) → Kept (fun b => P b ∧ b ≠ Dl) src H1 H2 := fun H2 h b o e _ => h b o e
    refine lc_it (n := ds.length) (G := fun H2 => Kept (fun b => P b ∧ b ≠ Dl) src H1 H2) (Y := fun i H2 x H3 => Same H2 H3 ∧ ∃ d, ds[i]? = some d ∧ Rep (fun b => P b ∧ b ≠ Dl) H3 d x) ⟨fun i H2 hi g => wk.goes H2 i g hi, fun H2 g => wk.stops H2 g, fun i H2 x H3 hi g y => wk.yields H2 i x H3 g hi y⟩
      (fun i H2 => ∃ (bs : List Addr) (pre : List D), lcAll (lcOne asg cTrue fe F (wipeE ρ (own.map (·.2)))) (ds.take i) = some pre ∧ H2 Dl = some (.lst (bs.map V.ref)) ∧ RepL (fun b => P b ∧ b ≠ Dl) H2 pre (bs.map V.ref) ∧ (bs.Nodup ∧ ∀ b ∈ bs, H1 b = none ∧ b ≠ Dl ∧ H2 b ≠ none) ∧ ∀ b o, H1 b = some o → H2 b = some o) ?_ ?_ ?_ ?_
    · refine ⟨[], [], by simp [lcAll], upd_same, by simp [RepL], ⟨List.nodup_nil, fun _ h => nomatch h⟩, fun b o e => ?_⟩
      rw [upd_ne (ne_of_none e hD)]; exact e
    · rintro i H2 _ ⟨bs, pre, _, _, _, _, h⟩
      exact kept H2 h
    · rintro i x H2 H3 hi ⟨bs, pre, hpre, hDl, hr, ⟨hnd, hbs⟩, hkp⟩ ⟨s3, d, hd, rd⟩
      have e3 : ds.take (i + 1) = ds.take i ++ [d] := by rw [List.take_add_one, hd]; rfl
      obtain ⟨pre', post, e4, e5⟩ := lcAll_take e2 (i + 1)
      have e4' := e4
      rw [e3, lcAll_snoc, hpre] at e4
      simp only [Option.bind_some] at e4
      obtain ⟨ys, e6, rfl⟩ := Option.map_eq_some_iff.mp e4
      obtain ⟨ρ', e7, e8⟩ := Option.bind_eq_some_iff.mp e6
      obtain ⟨b, e9, e10⟩ := Option.bind_eq_some_iff.mp e8
      have hD3 : H3 Dl = some (.lst (bs.map V.ref)) := s3 _ _ hDl
      have all3 : ∀ b o, H1 b = some o → H3 b = some o := fun b o e => s3 b o (hkp b o e)
      have sm : Same H1 H3 := all3
      have fr3 : Fre (fun b => P b ∧ b ≠ Dl) H3 := fre_minus (fr1.same sm) (by rw [hD3]; simp)
      have er3 : ER X.mg (fun b => P b ∧ b ≠ Dl) ks' H3 (L2.wipe σ (own.map (·.2))) (wipeE ρ (own.map (·.2))) := ER.wipe (er1.mono sm fun a ha pa => ⟨pa, fun e => ha (e ▸ hD)⟩) hk
      refine ⟨_, _, _, d, rd, er3, e7, fun σ' er' hl hj => ⟨wipe_eq hl hj his, ?_⟩⟩
      refine ⟨_, ρ', b, fr3, er', e9, fun H4 s4 => ?_⟩
      have all4 : ∀ b o, H1 b = some o → H4 b = some o := fun b o e => s4 b o (all3 b o e)
      have eb : b = true := by
        have := (show some true = some b from e9)
        cases this; rfl
      subst eb
      rw [if_pos rfl] at e10
      refine iteT ?_
      obtain ⟨y, e11, rfl⟩ := Option.map_eq_some_iff.mp e10
      refine ⟨_, ρ', y, fr3.same s4, er'.same s4, e11, fun v H5 s5 r5 tn => ?_⟩
      have hD4 : H4 Dl = some (.lst (bs.map V.ref)) := s4 _ _ hD3
      have hD5 : H5 Dl = some (.lst (bs.map V.ref)) := s5 _ _ hD4
      have rl := ((hr.same s3).same s4).same s5
      have hy : isLst y = true := hall y (by rw [e5]; simp)
      obtain ⟨a, us, xs, rfl, rfl, ha5, na4⟩ : ∃ a us xs, v = .ref a ∧ y = .lst xs ∧ H5 a = some (.lst us) ∧ H4 a = none := by
        cases y <;> simp only [isLst] at hy <;> first | (cases hy; done) | skip
        simp only [Rep] at r5
        obtain ⟨a, us, rfl, _, ha, _⟩ := r5
        exact ⟨a, us, _, rfl, rfl, ha, tn a rfl⟩
      have aD : a ≠ Dl := fun z => by rw [z, hD4] at na4; cases na4
      have some4 : ∀ b ∈ bs, H4 b ≠ none := fun b hb z => by
        have := (hbs b hb).2.2
        cases hq : H2 b with
        | none => exact this hq
        | some o => rw [s4 b o (s3 b o hq)] at z; cases z
      refine ⟨bs.map V.ref, hD5, ?_, bs ++ [a], pre ++ [.lst xs], e4', by rw [upd_same, List.map_append]; rfl, ?_, ⟨?_, fun b hb => ?_⟩, fun b o e => ?_⟩
      · rw [rl.len]
        have : outs.length = (pre ++ [D.lst xs]).length + post.length := by rw [e5, List.length_append]
        rw [List.length_append, List.length_singleton] at this
        omega
      · have r6 : RepL (fun b => P b ∧ b ≠ Dl) H5 (pre ++ [.lst xs]) ((bs ++ [a]).map V.ref) := by
          rw [List.map_append]
          exact rl.app (by simp only [List.map_cons, List.map_nil, RepL]; exact ⟨_, [], rfl, r5, rfl⟩)
        exact RepL.chg (by rw [hD5]; trivial) (fun z => z.2 rfl) _ _ r6
      · rw [List.nodup_append]
        refine ⟨hnd, by simp, fun x hx y hy z => ?_⟩
        rw [List.mem_singleton.mp hy] at z
        subst z
        exact some4 _ hx na4
      · have up : ∀ b, H5 b ≠ none → upd H5 Dl (.lst (bs.map V.ref ++ [V.ref a])) b ≠ none := fun b hb => by
          by_cases c : b = Dl
          · rw [c, upd_same]; simp
          · rw [upd_ne c]; exact hb
        rcases List.mem_append.mp hb with hb | hb
        · refine ⟨(hbs b hb).1, (hbs b hb).2.1, up b ?_⟩
          intro z
          cases hq : H4 b with
          | none => exact some4 b hb hq
          | some o => rw [s5 b o hq] at z; cases z
        · rw [List.mem_singleton.mp hb]
          refine ⟨?_, aD, up a (by rw [ha5]; simp)⟩
          cases hq : H1 a with
          | none => rfl
          | some o => rw [all4 a o hq] at na4; cases na4
      · rw [upd_ne (ne_of_none e hD)]
        exact s5 b o (all4 b o e)
    · rintro H2 ⟨bs, pre, hpre, hDl, hr, ⟨hnd, hbs⟩, hkp⟩
      rw [List.take_length, e2] at hpre
      cases hpre
      exact k _ H2 (s1.trans hkp) ⟨_, Dl, bs, rfl, rfl, s1.free hD, hDl, hr, hnd, fun b hb => ⟨s1.free (hbs b hb).1, (hbs b hb).2.1⟩⟩
  · cases ev0
def isAtm : D → Bool
  | .str _ => true
  | .int _ => true
  | .bl _ => true
  | .non => true
  | _ => false
def atmL : D → Bool
  | .lst xs => xs.all isAtm
  | _ => false
theorem Rep.atm {P P' : Addr → Prop} {H H' : Hp} {d : D} {v : V} (h : isAtm d = true) (r : Rep P H d v) : Rep P' H' d v := by
  cases d <;> simp only [isAtm] at h <;> first | (cases h; done) | (simp only [Rep] at r ⊢; exact r)
theorem RepL.atm {P P' : Addr → Prop} {H H' : Hp} : ∀ {ds : List D} {vs : List V}, ds.all isAtm = true → RepL P H ds vs → RepL P' H' ds vs
  | [], vs, _, r => by simp only [RepL] at r ⊢; exact r
  | d :: ds, vs, h, r => by
    rw [List.all_cons, Bool.and_eq_true] at h
    simp only [RepL] at r ⊢
    obtain ⟨v, w, e, r1, r2⟩ := r
    exact ⟨v, w, e, Rep.atm h.1 r1, RepL.atm h.2 r2⟩
theorem RepL.ofGet {P : Addr → Prop} {H : Hp} : ∀ {ds : List D} {vs : List V}, vs.length = ds.length → (∀ (p : Nat) (d : D) (v : V), ds[p]? = some d → vs[p]? = some v → Rep P H d v) → RepL P H ds vs
  | [], [], _, _ => by simp only [RepL]
  | [], _ :: _, h, _ => by cases h
  | _ :: _, [], h, _ => by cases h
  | d :: ds, v :: vs, h, g => by
    simp only [RepL]
    exact ⟨v, vs, rfl, g 0 d v rfl rfl, RepL.ofGet (by simpa using h) fun p d' v' e1 e2 => g (p + 1) d' v' (by simpa using e1) (by simpa using e2)⟩
def lstOf : D → Option (List D)
  | .lst xs => some xs
  | _ => none
def intOf : D → Option Int
  | .int n => some n
  | _ => none
theorem lstOf_some {d : D} {xs : List D} (h : lstOf d = some xs) : d = .lst xs := by
  cases d <;> simp only [lstOf] at h <;> first | (cases h; done) | (cases h; rfl)
theorem intOf_some {d : D} {n : Int} (h : intOf d = some n) : d = .int n := by
  cases d <;> simp only [intOf] at h <;> first | (cases h; done) | (cases h; rfl)
/-- o[k1][k2] = v -/
def nestD (o k1 k2 v : D) : Option D := (lstOf o).bind fun ds => (intOf k1).bind fun n => (intOf k2).bind fun m => (L2.ixN ds.length n).bind fun i => (ds[i]?.bind lstOf).bind fun xs => (L2.ixN xs.length m).map fun j => .lst (ds.set i (.lst (xs.set j v)))
def allAtm : D → Bool
  | .lst ds => ds.all atmL
  | _ => false
def sNest (i : Nat) (f f1 f2 g : SE) (h : SS) : SS := fun F ρ => (f F ρ).bind fun o => if allAtm o = true then (cV i F (ρ.set i (some o))).bind fun _ => (g F (ρ.set i (some o))).bind fun v => if isAtm v = true then (f1 F (ρ.set i (some o))).bind fun k1 => (f2 F (ρ.set i (some o))).bind fun k2 => (nestD o k1 k2 v).bind fun d => h F (ρ.set i (some d)) else none else none
theorem ixN_lt {n : Nat} {k : Int} {i : Nat} (h : L2.ixN n k = some i) : i < n := by
  unfold L2.ixN at h
  split at h
  · split at h
    · cases h; omega
    · cases h
  · split at h
    · cases h; omega
    · cases h
theorem evSs_nest {X : Cx} {ks : Ks} {F : Fn} {i : Nat} {x : Str} {e0 i1 i2 e : Expr} {p0 p1 p2 p3 pos1 pos2 : Pos} {rest : List Stmt} {f f1 f2 g : SE} {h : SS} (hN : X.N.Nodup) (hi : X.N[i]? = some x) (hv : Vis X.env.scope x) (hd : (x == ("__debug__" : Str)) = false) (hcd : (x == ("__classdict__" : Str)) = false) (hk : kd ks i = .M)
    (hlc : X.env.scope.names.lookup x = some .local) (hsw : swapsWith e0 (some (.Name x p0)) pos1.line X.env = pure true) (hl : EvNL X ks F e0 f) (hg : EvE X ks F e g) (h1 : EvP X ks F i1 f1) (h2 : EvP X ks F i2 f2) (hp1 : plainIx i1 = true) (hp2 : plainKey i2 = true)
    (hs : swapsWithSole [.Subscript (.Subscript (.Name x p1) i1 p2) i2 p3] e pos2.line X.env = pure false) (hw : swappedStores [.Subscript (.Subscript (.Name x p1) i1 p2) i2 p3] e X.env = pure none) (hr : EvSs X ks F rest h) :
    EvSs X ks F (.Assign [.Name x p0] e0 pos1 :: .Assign [.Subscript (.Subscript (.Name x p1) i1 p2) i2 p3] e pos2 :: rest) (sNest i f f1 f2 g h) := by
  obtain ⟨t, p, q⟩ := hl.ex
  obtain ⟨tv, pv, qv⟩ := hg.ex
  obtain ⟨t1, pt1, q1⟩ := h1.ex
  obtain ⟨t2, pt2, q2⟩ := h2.ex
  obtain ⟨t', p', q'⟩ := hr.ex
  refine ⟨tSeq (tAsg t (gName i)) (tSeq (tAsg tv (gSub (tOp (rIx X.K) (tVar i) t1) t2 rSetL)) t'), pss_cons (p i x p0 pos1 hi hlc hsw) (pss_cons (ps_asg pv (pg_sub (pe_ix ix_seq (pe_var hi hv hd hcd) pt1 (plainIx_ok hp1)) pt2 set_list (assign_sub hp2 X.env)) hs hw rfl) p'), fun Hb Pe P H σ ρ D r sr ev k => ?_⟩
  obtain ⟨o, e1, ev1⟩ := Option.bind_eq_some_iff.mp ev
  split at ev1
  · rename_i hatm
    obtain ⟨o', ecv, ev1⟩ := Option.bind_eq_some_iff.mp ev1
    have hil : i < σ.length := by
      have := (List.getElem?_eq_some_iff.mp (cV_some ecv)).1
      rw [List.length_set, sr.er.1] at this
      exact this
    obtain ⟨vd, e2, ev2⟩ := Option.bind_eq_some_iff.mp ev1
    split at ev2
    · rename_i hva
      obtain ⟨k1, e3, ev3⟩ := Option.bind_eq_some_iff.mp ev2
      obtain ⟨k2, e4, ev4⟩ := Option.bind_eq_some_iff.mp ev3
      obtain ⟨nd, e5, ev5⟩ := Option.bind_eq_some_iff.mp ev4
      refine q σ H P ρ _ o sr.fre sr.er e1 fun vv H1 s1 ⟨ds, Dl, bs, eo, evv, nDl, hDl, hrl, hnd, hbs⟩ => ?_
      subst eo evv
      have rr : Rep P H1 (.lst ds) (.ref Dl) := by
        simp only [Rep]
        exact ⟨Dl, _, rfl, sr.fre Dl nDl, hDl, hrl.weak fun a z => z.1⟩
      obtain ⟨P1, sub, ext, fr1, ft, _⟩ := new_fits sr hk s1 rr (topNew_ref nDl) (fun _ a ea => by cases ea; rw [hDl]; trivial)
      have sr1 := (sr.shrink s1 sub ext fr1).set ft
      refine qv _ H1 P1 _ _ vd sr1.fre sr1.er e2 fun z H2 s2 rz => ?_
      refine ⟨.ref Dl, List.getElem?_set_self hil, q1 _ H2 P1 _ _ k1 (sr1.fre.same s2) (sr1.er.same s2) e3 fun y H3 s3 ry => ?_⟩
      -- the places
      unfold nestD at e5
      obtain ⟨ds', q1', e5⟩ := Option.bind_eq_some_iff.mp e5
      have q1' := lstOf_some q1'
      cases q1'
      obtain ⟨n, q2', e5⟩ := Option.bind_eq_some_iff.mp e5
      have eq2 := intOf_some q2'
      obtain ⟨m, q3', e5⟩ := Option.bind_eq_some_iff.mp e5
      have eq3 := intOf_some q3'
      obtain ⟨i', ei, e6⟩ := Option.bind_eq_some_iff.mp e5
      obtain ⟨xs, hxs', e6⟩ := Option.bind_eq_some_iff.mp e6
      obtain ⟨dr, hdr, hxs'⟩ := Option.bind_eq_some_iff.mp hxs'
      have hxs : ds[i']? = some (.lst xs) := by rw [hdr, lstOf_some hxs']
      obtain ⟨j, ej, e7⟩ := Option.map_eq_some_iff.mp e6
      subst e7
      have hlenb : bs.length = ds.length := by
        have := hrl.len
        rw [List.length_map] at this
        exact this
      have hi' := ixN_lt ei
      have hb? : (bs.map V.ref)[i']? = some (.ref bs[i']) := by simp [hlenb, hi']
      have hbm : bs[i'] ∈ bs := List.getElem_mem _
      obtain ⟨nb, bD⟩ := hbs _ hbm
      have s13 : Same H1 H3 := s2.trans s3
      rw [eq2] at ry
      simp only [RepB] at ry
      refine .inl ⟨Dl, bs.map V.ref, n, .ref bs[i'], rfl, ry, SqL.of (s13 _ _ hDl), ?_, ?_⟩
      · unfold L2.atI
        have ei2 : L2.ixN bs.length n = some i' := by rw [hlenb]; exact ei
        rw [List.length_map, ei2]
        exact hb?
      refine q2 _ H3 P1 _ _ k2 (sr1.fre.same s13) (sr1.er.same s13) e4 fun w H4 s4 rw' => ?_
      have s14 : Same H1 H4 := s13.trans s4
      rw [eq3] at rw'
      simp only [RepB] at rw'
      obtain ⟨u0, eu0, ru⟩ := hrl.get hxs
      rw [hb?] at eu0
      cases eu0
      simp only [Rep] at ru
      obtain ⟨b0, ys, eb0, _, hys, rys⟩ := ru
      cases eb0
      have hatm' : ∀ p d, ds[p]? = some d → atmL d = true := fun p d hp => by
        have : ds.all atmL = true := hatm
        rw [List.all_eq_true] at this
        exact this d (List.mem_of_getElem? hp)
      have hxa : xs.all isAtm = true := hatm' i' _ hxs
      refine ⟨bs[i'], ys, m, j, rfl, rw', s14 _ _ hys, by rw [rys.len]; exact ej, ?_⟩
      -- what stands behind
      have sHH : Same H (upd H4 bs[i'] (.lst (ys.set j z))) := fun c o hc => by
        have : c ≠ bs[i'] := fun y => by rw [y, nb] at hc; cases hc
        rw [upd_ne this]
        exact s14 _ _ (s1 _ _ hc)
      have hDHH : upd H4 bs[i'] (.lst (ys.set j z)) Dl = some (.lst (bs.map V.ref)) := by
        rw [upd_ne (Ne.symm bD)]
        exact s14 _ _ hDl
      have RR : Rep P (upd H4 bs[i'] (.lst (ys.set j z))) (.lst (ds.set i' (.lst (xs.set j vd)))) (.ref Dl) := by
        simp only [Rep]
        refine ⟨Dl, bs.map V.ref, rfl, sr.fre Dl nDl, hDHH, RepL.ofGet (by rw [List.length_map, List.length_set, hlenb]) fun p d v hp hvp => ?_⟩
        by_cases c : p = i'
        · subst c
          rw [List.getElem?_set_self hi'] at hp
          cases hp
          rw [hb?] at hvp
          cases hvp
          simp only [Rep]
          refine ⟨_, ys.set j z, rfl, sr.fre _ nb, upd_same, ?_⟩
          exact RepL.upd (Rep.atm hva rz) j (RepL.atm hxa rys)
        · rw [List.getElem?_set_ne (Ne.symm c)] at hp
          obtain ⟨v', ev', rv'⟩ := hrl.get hp
          rw [ev'] at hvp
          cases hvp
          have ha := hatm' p d hp
          cases d <;> simp only [atmL] at ha <;> first | (cases ha; done) | skip
          simp only [Rep] at rv' ⊢
          obtain ⟨a, us, rfl, _, hus, rus⟩ := rv'
          have hab : a ∈ bs ∧ a ≠ bs[i'] := by
            have hpl : p < bs.length := by
              have := (List.getElem?_eq_some_iff.mp ev').1
              rw [List.length_map] at this
              exact this
            have e9 : bs[p] = a := by
              rw [List.getElem?_map, List.getElem?_eq_getElem hpl] at ev'
              have := Option.some.inj ev'
              injection this
            refine ⟨e9 ▸ List.getElem_mem _, fun z => c ?_⟩
            rw [← e9] at z
            exact (List.getElem_inj hnd).mp z
          refine ⟨a, us, rfl, sr.fre _ (hbs a hab.1).1, ?_, RepL.atm ha rus⟩
          rw [upd_ne hab.2]
          exact s14 _ _ hus
      obtain ⟨P5, sub5, ext5, fr5, ft5, _⟩ := new_fits sr hk sHH RR (topNew_ref nDl) (fun _ a ea => by cases ea; rw [hDHH]; trivial)
      exact q' Hb Pe P5 _ _ _ D r ((sr.shrink sHH sub5 ext5 fr5).set ft5) ev5 (k.after ((Frm.shrink sHH sub5 ext5).trans (Frm.set (.inr hk))))
    · cases ev2
  · cases ev1
end RE
/-! RE13: a, b = x, y. -/
namespace RE
open PySem PySem.Spec PyProof.Rows L2
section
variable {X : Cx} {ks : Ks} {F : Fn} {pos : Pos}
theorem Chg.same {H H' : Hp} {a : Addr} (s : Same H H') (c : Chg (H a)) : Chg (H' a) := by
  cases h : H a with
  | none => rw [h] at c; exact c.elim
  | some o => rw [s a o h, ← h]; exact c
theorem Fits.mono {mg : Str → Option Value} {Hb : Hp} {P P' : Addr → Prop} {H H' : Hp} {σ : L2.St} {ρ : RE.Env} {i : Nat} {d : D} {v : V} (s : Same H H') (sub : ∀ a, P' a → P a) (ext : ∀ a, H a ≠ none → P a → P' a) (h : Fits mg Hb P ks H σ ρ i d v) : Fits mg Hb P' ks H' σ ρ i d v := by
  unfold Fits at h ⊢
  cases hk : kd ks i with
  | F => rw [hk] at h; exact Rep.mono s ext _ _ h
  | L => rw [hk] at h; exact h
  | B => rw [hk] at h; exact h
  | M =>
    rw [hk] at h
    refine ⟨⟨RepB.mono s ext h.1.1, h.1.2⟩, fun m => ?_⟩
    obtain ⟨a, h1, h2, h3, h4, h5⟩ := h.2 m
    exact ⟨a, h1, h2, fun p => h3 (sub a p), h4.same s, h5⟩
/-- two own things stand apart -/
def Apart (ks : Ks) (i : Nat) (d : D) (v : V) (j : Nat) (e : D) (w : V) : Prop := kd ks i = .M → kd ks j = .M → isMut d = true → isMut e = true → ∀ a, v = .ref a → w ≠ .ref a
def AllApart (ks : Ks) (i : Nat) (d : D) (v : V) : List Nat → List D → List V → Prop
  | [], [], [] => True
  | j :: js, e :: es, w :: ws => Apart ks i d v j e w ∧ AllApart ks i d v js es ws
  | _, _, _ => False
def FitsL (mg : Str → Option Value) (Hb : Hp) (P : Addr → Prop) (ks : Ks) (H : Hp) (σ : L2.St) (ρ : RE.Env) : List Nat → List D → List V → Prop
  | [], [], [] => True
  | i :: is, d :: ds, v :: vs => Fits mg Hb P ks H σ ρ i d v ∧ AllApart ks i d v is ds vs ∧ FitsL mg Hb P ks H σ ρ is ds vs
  | _, _, _ => False
def setAll {α : Type} (l : List (Option α)) : List Nat → List α → List (Option α)
  | i :: is, d :: ds => setAll (l.set i (some d)) is ds
  | _, _ => l
theorem Fits.after {mg : Str → Option Value} {Hb : Hp} {P : Addr → Prop} {H : Hp} {σ : L2.St} {ρ : RE.Env} {i j : Nat} {d e : D} {v w : V} (hi : kd ks i = .F ∨ kd ks i = .M) (h : Fits mg Hb P ks H σ ρ j e w) (ap : Apart ks i d v j e w) : Fits mg Hb P ks H (σ.set i (some v)) (ρ.set i (some d)) j e w := by
  unfold Fits at h ⊢
  cases hk : kd ks j with
  | F => rw [hk] at h; exact h
  | L => rw [hk] at h; exact h
  | B => rw [hk] at h; exact h
  | M =>
    rw [hk] at h
    refine ⟨h.1, fun m => ?_⟩
    obtain ⟨a, h1, h2, h3, h4, h5⟩ := h.2 m
    refine ⟨a, h1, h2, h3, h4, fun l x lj kl q mx z => ?_⟩
    by_cases il : i = l
    · subst il
      have hi1 : i < ρ.length := by
        rw [← List.length_set (i := i) (a := some d)]
        exact (List.getElem?_eq_some_iff.mp q).1
      have hi2 : i < σ.length := by
        rw [← List.length_set (i := i) (a := some v)]
        exact (List.getElem?_eq_some_iff.mp z).1
      rw [List.getElem?_set_self hi1] at q
      rw [List.getElem?_set_self hi2] at z
      cases q; cases z
      rcases kl with kl | kl
      · exact ap kl hk mx m a rfl h1
      · rw [kl] at hi; rcases hi with y | y <;> cases y
    · rw [List.getElem?_set_ne il] at q z
      exact h5 l x lj kl q mx z
theorem FitsL.after {mg : Str → Option Value} {Hb : Hp} {P : Addr → Prop} {H : Hp} {σ : L2.St} {ρ : RE.Env} {i : Nat} {d : D} {v : V} (hi : kd ks i = .F ∨ kd ks i = .M) : ∀ {js : List Nat} {es : List D} {ws : List V}, FitsL mg Hb P ks H σ ρ js es ws → AllApart ks i d v js es ws → FitsL mg Hb P ks H (σ.set i (some v)) (ρ.set i (some d)) js es ws
  | [], [], [], _, _ => trivial
  | j :: js, e :: es, w :: ws, h, ap => ⟨Fits.after hi h.1 ap.1, h.2.1, FitsL.after hi h.2.2 ap.2⟩
  | [], _ :: _, _, h, _ => h.elim
  | [], [], _ :: _, h, _ => h.elim
  | _ :: _, [], _, h, _ => h.elim
  | _ :: _, _ :: _, [], h, _ => h.elim
theorem SR.setAll {mg : Str → Option Value} {Hb : Hp} {Pe P : Addr → Prop} {H : Hp} : ∀ {is : List Nat} {ds : List D} {vs : List V} {σ : L2.St} {ρ : RE.Env}, (∀ i ∈ is, kd ks i = .F ∨ kd ks i = .M) → SR mg Hb Pe P ks H σ ρ → FitsL mg Hb P ks H σ ρ is ds vs →
    SR mg Hb Pe P ks H (setAll σ is vs) (setAll ρ is ds) ∧ Frm ks P H σ ρ P H (setAll σ is vs) (setAll ρ is ds)
  | [], [], [], σ, ρ, _, sr, _ => ⟨sr, Frm.refl⟩
  | i :: is, d :: ds, v :: vs, σ, ρ, hk, sr, h => by
    have sr1 := sr.set h.1
    have hi := hk i (List.mem_cons_self)
    obtain ⟨a, b⟩ := SR.setAll (fun j hj => hk j (List.mem_cons_of_mem _ hj)) sr1 (FitsL.after hi h.2.2 h.2.1)
    exact ⟨a, (Frm.set hi).trans b⟩
  | [], _ :: _, _, _, _, _, _, h => h.elim
  | [], [], _ :: _, _, _, _, _, h => h.elim
  | _ :: _, [], _, _, _, _, _, h => h.elim
  | _ :: _, _ :: _, [], _, _, _, _, h => h.elim
theorem FitsL.mono {mg : Str → Option Value} {Hb : Hp} {P P' : Addr → Prop} {H H' : Hp} {σ : L2.St} {ρ : RE.Env} (s : Same H H') (sub : ∀ a, P' a → P a) (ext : ∀ a, H a ≠ none → P a → P' a) : ∀ {is : List Nat} {ds : List D} {vs : List V}, FitsL mg Hb P ks H σ ρ is ds vs → FitsL mg Hb P' ks H' σ ρ is ds vs
  | [], [], [], _ => trivial
  | i :: is, d :: ds, v :: vs, h => ⟨h.1.mono s sub ext, h.2.1, FitsL.mono s sub ext h.2.2⟩
  | [], _ :: _, _, h => h.elim
  | [], [], _ :: _, h => h.elim
  | _ :: _, [], _, h => h.elim
  | _ :: _, _ :: _, [], h => h.elim
/-- values for slots, one after another -/
structure EvV (X : Cx) (ks : Ks) (F : Fn) (is : List Nat) (es : List Expr) (f : SA) : Prop where
  ex : ∃ t : TA, PA X es t ∧ ∀ Hb Pe P H σ ρ (Q : List V → Hp → Prop) ds, SR X.mg Hb Pe P ks H σ ρ → f F ρ = some ds →
    (∀ P' vs H', Same H H' → SR X.mg Hb Pe P' ks H' σ ρ → Frm ks P H σ ρ P' H' σ ρ → FitsL X.mg Hb P' ks H' σ ρ is ds vs → (∀ j d v, kd ks j = .M → (isMut d = true → ∀ a, v = .ref a → H a ≠ none) → AllApart ks j d v is ds vs) → Q vs H') → t σ H Q
theorem evV_nil : EvV X ks F [] [] cNil :=
  ⟨tNil, pa_nil, fun Hb Pe P H σ ρ Q ds sr ev k => by
    cases ev
    exact k P [] H (Same.refl H) sr Frm.refl trivial fun _ _ _ _ _ => trivial⟩
theorem evV_consF {i : Nat} {is : List Nat} {e : Expr} {es : List Expr} {f : SE} {g : SA} (hk : kd ks i = .F) (hn : noStar e = true) (h : EvE X ks F e f) (hr : EvV X ks F is es g) : EvV X ks F (i :: is) (e :: es) (cCons f g) := by
  obtain ⟨t, p, q⟩ := h.ex
  obtain ⟨t', p', q'⟩ := hr.ex
  refine ⟨tCons t t', pa_cons p p' (starEach_cons (noStar_ne hn)), fun Hb Pe P H σ ρ Q ds sr ev k => ?_⟩
  obtain ⟨d, e1, ev⟩ := Option.bind_eq_some_iff.mp ev
  obtain ⟨ds', e2, ev⟩ := Option.bind_eq_some_iff.mp ev
  cases ev
  refine q σ H P ρ _ d sr.fre sr.er e1 fun v H1 s1 r1 => ?_
  refine q' Hb Pe P H1 σ ρ _ ds' (sr.same s1) e2 fun P2 vs H2 s2 sr2 fm2 ft ap => ?_
  have f1 : Fits X.mg Hb P ks H1 σ ρ i d v := by unfold Fits; rw [hk]; exact r1
  refine k P2 _ H2 (s1.trans s2) sr2 ((Frm.of_same s1).trans fm2) ⟨f1.mono s2 fm2.sub fm2.ext, ?_, ft⟩ fun j d' v' hj hm => ⟨(fun _ z => by rw [hk] at z; cases z), ap j d' v' hj fun m a ea => ?_⟩
  · have : ∀ (js : List Nat) (es : List D) (ws : List V), FitsL X.mg Hb P2 ks H2 σ ρ js es ws → AllApart ks i d v js es ws := by
      intro js
      induction js with
      | nil => intro es ws h; cases es <;> cases ws <;> first | trivial | exact h.elim
      | cons j js ih =>
        intro es ws h
        cases es with
        | nil => exact h.elim
        | cons e es =>
          cases ws with
          | nil => exact h.elim
          | cons w ws => exact ⟨(fun z => by rw [hk] at z; cases z), ih es ws h.2.2⟩
    exact this _ _ _ ft
  · exact fun z => hm m a ea (s1.free z)
theorem evV_consM {i : Nat} {is : List Nat} {e : Expr} {es : List Expr} {f : SE} {g : SA} (hk : kd ks i = .M) (hn : noStar e = true) (h : EvM X ks F e f) (hr : EvV X ks F is es g) : EvV X ks F (i :: is) (e :: es) (cCons f g) := by
  obtain ⟨t, p, q⟩ := h.ex
  obtain ⟨t', p', q'⟩ := hr.ex
  refine ⟨tCons t t', pa_cons p p' (starEach_cons (noStar_ne hn)), fun Hb Pe P H σ ρ Q ds sr ev k => ?_⟩
  obtain ⟨d, e1, ev⟩ := Option.bind_eq_some_iff.mp ev
  obtain ⟨ds', e2, ev⟩ := Option.bind_eq_some_iff.mp ev
  cases ev
  refine q σ H P ρ _ d sr.fre sr.er e1 fun v H1 s1 ⟨r1, tn, un⟩ => ?_
  obtain ⟨P1, sub1, ext1, fr1, f1, _⟩ := new_fits sr hk s1 r1 tn un
  refine q' Hb Pe P1 H1 σ ρ _ ds' (sr.shrink s1 sub1 ext1 fr1) e2 fun P2 vs H2 s2 sr2 fm2 ft ap => ?_
  refine k P2 _ H2 (s1.trans s2) sr2 ((Frm.shrink s1 sub1 ext1).trans fm2) ⟨f1.mono s2 fm2.sub fm2.ext, ap i d v hk fun m a ea z => ?_, ft⟩ fun j d' v' hj hm => ⟨fun _ _ m1 m2 a ea ew => ?_, ap j d' v' hj fun m a ea z => hm m a ea (s1.free z)⟩
  · have := un m a ea
    rw [z] at this
    exact this
  · refine hm m1 a ea ?_
    subst ew
    cases d <;> simp only [isMut] at m2 <;> first | (cases m2; done) | exact tn a rfl
def sPar (is : List Nat) (f : SA) : SS := fun F ρ => (f F ρ).map fun ds => .nx (setAll ρ is ds)
theorem evS_par2 {i j : Nat} {x y : Str} {a b : Expr} {f : SA} {px py pt : Pos} {kt k2 pt2} (hc : X.calm = true) (hN : X.N.Nodup) (hi : X.N[i]? = some x) (hj : X.N[j]? = some y) (hij : i ≠ j)
    (hx : X.env.scope.names.lookup x = some .local) (hy : X.env.scope.names.lookup y = some .local) (hk : ∀ l ∈ [i, j], kd ks l = .F ∨ kd ks l = .M) (ha : EvV X ks F [i, j] [a, b] f)
    (hw : swappedStores [.Tuple [.Name x px, .Name y py] kt pt] (.Tuple [a, b] k2 pt2) X.env = pure (some [x, y])) :
    EvS X ks F (.Assign [.Tuple [.Name x px, .Name y py] kt pt] (.Tuple [a, b] k2 pt2) pos) (sPar [i, j] f) := by
  obtain ⟨t, p, q⟩ := ha.ex
  refine ⟨tPar i j t, ps_par hc hN hi hj hij hx hy p hw rfl, fun Hb Pe P H σ ρ D r sr ev k => ?_⟩
  obtain ⟨ds, e1, rfl⟩ := Option.map_eq_some_iff.mp ev
  refine q Hb Pe P H σ ρ _ ds sr e1 fun P1 vs H1 s1 sr1 fm ft _ => ?_
  match ds, vs, ft with
  | [], [], ft => exact ft.elim
  | [_], [_], ft => exact ft.2.2.elim
  | _ :: _ :: _ :: _, _ :: _ :: _ :: _, ft => exact ft.2.2.2.2.elim
  | [], _ :: _, ft => exact ft.elim
  | _ :: _, [], ft => exact ft.elim
  | [_], _ :: _ :: _, ft => exact ft.2.2.elim
  | _ :: _ :: _, [_], ft => exact ft.2.2.elim
  | [_, _], _ :: _ :: _ :: _, ft => exact ft.2.2.2.2.elim
  | _ :: _ :: _ :: _, [_, _], ft => exact ft.2.2.2.2.elim
  | [d1, d2], [v1, v2], ft =>
    obtain ⟨sr2, fm2⟩ := SR.setAll hk sr1 ft
    exact ⟨v1, v2, rfl, k P1 _ H1 sr2 (fm.trans fm2)⟩
theorem evS_par3 {i j l : Nat} {x y z : Str} {a b c : Expr} {f : SA} {px py pz pt : Pos} {kt k2 pt2} (hc : X.calm = true) (hN : X.N.Nodup) (hi : X.N[i]? = some x) (hj : X.N[j]? = some y) (hl : X.N[l]? = some z) (hij : i ≠ j) (hil : i ≠ l) (hjl : j ≠ l)
    (hx : X.env.scope.names.lookup x = some .local) (hy : X.env.scope.names.lookup y = some .local) (hz : X.env.scope.names.lookup z = some .local) (hk : ∀ n ∈ [i, j, l], kd ks n = .F ∨ kd ks n = .M) (ha : EvV X ks F [i, j, l] [a, b, c] f)
    (hw : swappedStores [.Tuple [.Name x px, .Name y py, .Name z pz] kt pt] (.Tuple [a, b, c] k2 pt2) X.env = pure (some [x, y, z])) :
    EvS X ks F (.Assign [.Tuple [.Name x px, .Name y py, .Name z pz] kt pt] (.Tuple [a, b, c] k2 pt2) pos) (sPar [i, j, l] f) := by
  obtain ⟨t, p, q⟩ := ha.ex
  refine ⟨tPar3 i j l t, ps_par3 hc hN hi hj hl hij hil hjl hx hy hz p hw rfl, fun Hb Pe P H σ ρ D r sr ev k => ?_⟩
  obtain ⟨ds, e1, rfl⟩ := Option.map_eq_some_iff.mp ev
  refine q Hb Pe P H σ ρ _ ds sr e1 fun P1 vs H1 s1 sr1 fm ft _ => ?_
  match ds, vs, ft with
  | [], [], ft => exact ft.elim
  | [_], [_], ft => exact ft.2.2.elim
  | [_, _], [_, _], ft => exact ft.2.2.2.2.elim
  | _ :: _ :: _ :: _ :: _, _ :: _ :: _ :: _ :: _, ft => exact ft.2.2.2.2.2.2.elim
  | [], _ :: _, ft => exact ft.elim
  | _ :: _, [], ft => exact ft.elim
  | [_], _ :: _ :: _, ft => exact ft.2.2.elim
  | _ :: _ :: _, [_], ft => exact ft.2.2.elim
  | [_, _], _ :: _ :: _ :: _, ft => exact ft.2.2.2.2.elim
  | _ :: _ :: _ :: _, [_, _], ft => exact ft.2.2.2.2.elim
  | [_, _, _], _ :: _ :: _ :: _ :: _, ft => exact ft.2.2.2.2.2.2.elim
  | _ :: _ :: _ :: _ :: _, [_, _, _], ft => exact ft.2.2.2.2.2.2.elim
  | [d1, d2, d3], [v1, v2, v3], ft =>
    obtain ⟨sr2, fm2⟩ := SR.setAll hk sr1 ft
    exact ⟨v1, v2, v3, rfl, k P1 _ H1 sr2 (fm.trans fm2)⟩
end
end RE
/-! RE13b: methods of texts. -/
namespace RE
open PySem PySem.Spec PyProof.Rows L2

def strsD : List D → Option (List Str)
  | [] => some []
  | .str b :: xs => (strsD xs).map (b :: ·)
  | _ :: _ => none
theorem RepL.strs {P : Addr → Prop} {H : Hp} : ∀ {ds : List D} {bs : List Str} {vs : List V}, strsD ds = some bs → RepL P H ds vs → vs = bs.map V.str
  | [], bs, vs, e, h => by simp only [strsD] at e; cases e; simp only [RepL] at h; subst h; rfl
  | d :: ds, bs, vs, e, h => by
    cases d <;> simp only [strsD] at e <;> first | (cases e; done) | skip
    obtain ⟨bs', e1, rfl⟩ := Option.map_eq_some_iff.mp e
    simp only [RepL, Rep] at h
    obtain ⟨v, r, rfl, rfl, h2⟩ := h
    rw [RepL.strs e1 h2]; rfl
/-- a.join(xs) -/
def joinS (a : Str) (xs : List D) : Option D := (strsD xs).bind fun ys => if (ys.map (·.length)).sum + ys.length * a.length ≤ 16777216 then some (.str (Txt.join a ys)) else none
def joinD (a : Str) : D → Option D
  | .lst xs => joinS a xs
  | .tup xs => joinS a xs
  | _ => none
theorem evN_join {X : Cx} {ks : Ks} {F : Fn} {a : Str} {e : Expr} {f : SE} {k : Nat} {p apos pos : Pos} (hs : noStar e = true) (hl : (apos.endLine == pos.line) = true) (h : EvP X ks F e f) :
    EvN X ks F (.Call (.Attribute (.Constant (.str a) k p) "join" apos) [e] [] pos) (cU (joinD a) f) := by
  obtain ⟨t, pt, q⟩ := h.ex
  refine ⟨_, pe_join (pe_str (x := a)) pt (starEach_cons (noStar_ne hs)) rfl hl, fun σ H P ρ Q d fr er ev kk => ?_⟩
  obtain ⟨x, e1, ev1⟩ := Option.bind_eq_some_iff.mp ev
  refine ⟨⟨a, rfl⟩, q σ H P ρ _ x fr er e1 fun v H1 s1 r1 => ?_⟩
  have fin : ∀ (xs : List D), joinS a xs = some d → ∃ ys, strsD xs = some ys ∧ (ys.map (·.length)).sum + ys.length * a.length ≤ 16777216 ∧ d = .str (Txt.join a ys) := by
    intro xs hx
    obtain ⟨ys, g1, g2⟩ := Option.bind_eq_some_iff.mp hx
    split at g2
    · rename_i c; cases g2; exact ⟨ys, g1, c, rfl⟩
    · cases g2
  cases x <;> simp only [joinD] at ev1 <;> first | (cases ev1; done) | skip
  · obtain ⟨ys, g1, g2, rfl⟩ := fin _ ev1
    obtain ⟨b, vs, rfl, h1, h2⟩ := r1.tup
    have := h2.strs g1
    subst this
    exact ⟨a, b, ys, rfl, rfl, .inr (SqT.of h1), g2, kk _ H1 s1 ⟨by simp only [Rep], trivial⟩⟩
  · obtain ⟨ys, g1, g2, rfl⟩ := fin _ ev1
    obtain ⟨b, vs, rfl, h1, h2⟩ := r1.lst
    have := h2.strs g1
    subst this
    exact ⟨a, b, ys, rfl, rfl, .inl (SqL.of h1), g2, kk _ H1 s1 ⟨by simp only [Rep], trivial⟩⟩
end RE
/-! RE13c: greatest and least of a list, sorted lists. -/
namespace RE
open PySem PySem.Spec PyProof.Rows L2

def maxL : List Int → Int
  | [] => 0
  | x :: xs => xs.foldl max x
def minL : List Int → Int
  | [] => 0
  | x :: xs => xs.foldl min x
theorem foldl_max : ∀ (xs : List Int) (x : Int), (xs.foldl max x ∈ x :: xs) ∧ ∀ y ∈ x :: xs, y ≤ xs.foldl max x
  | [], x => by simp
  | a :: xs, x => by
    obtain ⟨h1, h2⟩ := foldl_max xs (max x a)
    rw [List.foldl_cons]
    refine ⟨?_, fun y hy => ?_⟩
    · rcases List.mem_cons.mp h1 with h | h
      · rw [h]
        by_cases c : x ≤ a
        · rw [Int.max_eq_right c]; simp
        · rw [Int.max_eq_left (by omega)]; simp
      · exact List.mem_cons_of_mem _ (List.mem_cons_of_mem _ h)
    · have h0 := h2 (max x a) List.mem_cons_self
      rcases List.mem_cons.mp hy with rfl | hy
      · omega
      · rcases List.mem_cons.mp hy with rfl | hy
        · omega
        · exact h2 y (List.mem_cons_of_mem _ hy)
theorem foldl_min : ∀ (xs : List Int) (x : Int), (xs.foldl min x ∈ x :: xs) ∧ ∀ y ∈ x :: xs, xs.foldl min x ≤ y
  | [], x => by simp
  | a :: xs, x => by
    obtain ⟨h1, h2⟩ := foldl_min xs (min x a)
    rw [List.foldl_cons]
    refine ⟨?_, fun y hy => ?_⟩
    · rcases List.mem_cons.mp h1 with h | h
      · rw [h]
        by_cases c : x ≤ a
        · rw [Int.min_eq_left c]; simp
        · rw [Int.min_eq_right (by omega)]; simp
      · exact List.mem_cons_of_mem _ (List.mem_cons_of_mem _ h)
    · have h0 := h2 (min x a) List.mem_cons_self
      rcases List.mem_cons.mp hy with rfl | hy
      · omega
      · rcases List.mem_cons.mp hy with rfl | hy
        · omega
        · exact h2 y (List.mem_cons_of_mem _ hy)
theorem maxL_of {ns : List Int} {m : Int} (h1 : m ∈ ns) (h2 : ∀ j ∈ ns, j ≤ m) : m = maxL ns := by
  cases ns with
  | nil => cases h1
  | cons x xs =>
    obtain ⟨a, b⟩ := foldl_max xs x
    have := h2 _ a
    have := b m h1
    show m = xs.foldl max x
    omega
theorem minL_of {ns : List Int} {m : Int} (h1 : m ∈ ns) (h2 : ∀ j ∈ ns, m ≤ j) : m = minL ns := by
  cases ns with
  | nil => cases h1
  | cons x xs =>
    obtain ⟨a, b⟩ := foldl_min xs x
    have := h2 _ a
    have := b m h1
    show m = xs.foldl min x
    omega
def max1D : D → Option D
  | .lst xs => (intsD xs).bind fun ns => if ns.isEmpty then none else some (.int (maxL ns))
  | _ => none
def min1D : D → Option D
  | .lst xs => (intsD xs).bind fun ns => if ns.isEmpty then none else some (.int (minL ns))
  | _ => none
theorem max1D_ok {mg K} : RcOk mg (rMax K) (op1 max1D) := rc1 fun P H x d v Q fr rx e k => by
  cases x <;> simp only [max1D] at e <;> first | (cases e; done) | skip
  obtain ⟨ns, e1, e2⟩ := Option.bind_eq_some_iff.mp e
  obtain ⟨a, vs, rfl, h1, h2⟩ := rx.lst
  have := h2.ints e1
  subst this
  cases ns with
  | nil => cases e2
  | cons n ns =>
    cases e2
    refine ⟨a, n :: ns, rfl, SqL.of h1, by simp, fun m g1 g2 => ?_⟩
    rw [maxL_of g1 g2]
    exact k _ H (Same.refl H) (by simp only [Rep]) trivial
theorem min1D_ok {mg K} : RcOk mg (rMin K) (op1 min1D) := rc1 fun P H x d v Q fr rx e k => by
  cases x <;> simp only [min1D] at e <;> first | (cases e; done) | skip
  obtain ⟨ns, e1, e2⟩ := Option.bind_eq_some_iff.mp e
  obtain ⟨a, vs, rfl, h1, h2⟩ := rx.lst
  have := h2.ints e1
  subst this
  cases ns with
  | nil => cases e2
  | cons n ns =>
    cases e2
    refine ⟨a, n :: ns, rfl, SqL.of h1, by simp, fun m g1 g2 => ?_⟩
    rw [minL_of g1 g2]
    exact k _ H (Same.refl H) (by simp only [Rep]) trivial

/-! ### sorted -/
def isTup1 : D → Bool
  | .tup (_ :: _) => true
  | _ => false
def notTN : D → Bool
  | .tup _ => false
  | .non => false
  | _ => true
def sortOk (xs : List D) : Bool := (xs.all (pd 60) && fits xs.length) && ((xs.all fun d => xs.all fun e => alk d e) && (xs.all isTup1 || xs.all notTN))
noncomputable def sortL (xs : List D) : List D := xs.mergeSort fun d e => PySem.W.dataLe false toP d e
noncomputable def sortedD : D → Option D
  | .lst xs => if sortOk xs then some (.lst (sortL xs)) else none
  | _ => none
def rSortD (K : PySem.W.Frag) : List V → Hp → VK → Prop := fun vs H Q => ∃ (a : Addr) (ps : List (D × V)), vs = [V.ref a] ∧ SqL K H a (ps.map (·.2)) ∧ (∀ p ∈ ps, Dp K H p.2 (toP p.1) ∧ (toP p.1).depth ≤ 60) ∧ PySem.W.AllAlike (ps.map fun p => toP p.1) ∧ PySem.W.Sortable (ps.map fun p => toP p.1) ∧ ps.length ≤ sizeLine ∧
  ∀ p, H p = none → Q (.ref p) (upd H p (.lst ((ps.mergeSort (PySem.W.dataLe false fun p => toP p.1)).map (·.2))))
theorem each_of {X : Cx} {pins : List (Addr × Obj)} {σ : L2.St} {H : Hp} {s : Shared} (I : Inv X pins σ H s) : ∀ {ps : List (D × V)} {us : List Value}, Vals (ps.map (·.2)) us → (∀ p ∈ ps, Dp X.K H p.2 (toP p.1)) →
    PySem.W.EachIs (fun u p => RelV p.2 u) us ps ∧ PySem.W.EachIs (fun u p => ∃ as, Reads s.heap u (toP p.1) as) us ps
  | [], us, r, _ => by cases r; exact ⟨.nil, .nil⟩
  | p :: ps, us, r, h => by
    cases r with
    | cons r1 rs =>
      obtain ⟨h1, h2⟩ := each_of I rs fun q hq => h q (List.mem_cons_of_mem _ hq)
      exact ⟨.cons r1 h1, .cons (Dp.reads I _ _ _ (h p List.mem_cons_self) r1) h2⟩
theorem vals_of_each : ∀ {us : List Value} {ps : List (D × V)}, PySem.W.EachIs (fun u p => RelV p.2 u) us ps → Vals (ps.map (·.2)) us
  | _, _, .nil => .nil
  | _, _, .cons h t => .cons h (vals_of_each t)
theorem cr_sortD {X : Cx} (hu : X.A.units + 128 < cLine) : CallR X (.builtin "sorted") (rSortD X.K) := by
  intro pins s σ H vs us Q I r h
  obtain ⟨a, ps, rfl, hs, hd, hal, hk, hz, q⟩ := h
  obtain ⟨its, rv, hl, _⟩ := I.list hs
  rw [Vals.ref1 r]
  obtain ⟨e1, e2⟩ := each_of I rv fun p hp => (hd p hp).1
  refine PySem.W.sorted_data (enc := fun p : D × V => toP p.1) hl.isList e1 e2 hal hk hz (fun p hp => by have := (hd p hp).2; omega) fun out ho er => ?_
  obtain ⟨ep, he'⟩ := PyProof.Rows.sortedAll_at s.heap its out.toArray
  have hv := vals_of_each er
  refine ⟨.ref _, upd H (s.heap.objs.size + 1) (.lst ((ps.mergeSort (PySem.W.dataLe false fun p => toP p.1)).map (·.2))), I.laid (t' := s.toks) (fun _ _ => PyProof.Rows.sortedAll_old) (Nat.le_succ _) ⟨?_, out, ep, hv, he'⟩, rfl, q _ (I.hok.fresh (Nat.le_succ _))⟩
  rw [List.length_map, List.length_mergeSort]
  exact hz
theorem RepL.pairs {P : Addr → Prop} {H : Hp} : ∀ {ds : List D} {vs : List V}, RepL P H ds vs → ∃ ps : List (D × V), ps.map (·.1) = ds ∧ ps.map (·.2) = vs ∧ ∀ p ∈ ps, Rep P H p.1 p.2
  | [], vs, h => by simp only [RepL] at h; subst h; exact ⟨[], rfl, rfl, by simp⟩
  | d :: ds, vs, h => by
    simp only [RepL] at h
    obtain ⟨v, r, rfl, h1, h2⟩ := h
    obtain ⟨ps, rfl, rfl, h3⟩ := RepL.pairs h2
    refine ⟨(d, v) :: ps, rfl, rfl, fun p hp => ?_⟩
    rcases List.mem_cons.mp hp with rfl | hp
    · exact h1
    · exact h3 p hp
theorem RepL.ofPairs {P : Addr → Prop} {H : Hp} : ∀ {ps : List (D × V)}, (∀ p ∈ ps, Rep P H p.1 p.2) → RepL P H (ps.map (·.1)) (ps.map (·.2))
  | [], _ => by simp [RepL]
  | p :: ps, h => by
    simp only [List.map_cons, RepL]
    exact ⟨_, _, rfl, h p List.mem_cons_self, RepL.ofPairs fun q hq => h q (List.mem_cons_of_mem _ hq)⟩
theorem sortedD_ok {mg K} : RcOk mg (rSortD K) (op1 sortedD) := rc1 fun P H x d v Q fr rx e k => by
  cases x <;> simp only [sortedD] at e <;> first | (cases e; done) | skip
  rename_i xs
  by_cases c : sortOk xs = true
  · rw [if_pos c] at e
    cases e
    unfold sortOk at c
    simp only [Bool.and_eq_true, Bool.or_eq_true] at c
    obtain ⟨⟨c1, c2⟩, c3, c4⟩ := c
    obtain ⟨a, vs, rfl, h1, h2⟩ := rx.lst
    obtain ⟨ps, e1, rfl, h3⟩ := h2.pairs
    have hp : ∀ p ∈ ps, p.1 ∈ xs := fun p hp => e1 ▸ List.mem_map.mpr ⟨p, hp, rfl⟩
    rw [List.all_eq_true] at c1 c3
    refine ⟨a, ps, rfl, SqL.of h1, fun p hq => ⟨(h3 p hq).toB.dp (mg := mg) (c1 _ (hp p hq)), (pd_ok _ _ (c1 _ (hp p hq))).2⟩, ?_, ?_, ?_, fun q hq => ?_⟩
    · intro d hd d' hd'
      obtain ⟨p, hp1, rfl⟩ := List.mem_map.mp hd
      obtain ⟨p', hp2, rfl⟩ := List.mem_map.mp hd'
      have := c3 _ (hp p hp1)
      rw [List.all_eq_true] at this
      exact this _ (hp p' hp2)
    · rcases c4 with c4 | c4
      · rw [List.all_eq_true] at c4
        refine .inl fun d hd => ?_
        obtain ⟨p, hp1, rfl⟩ := List.mem_map.mp hd
        have := c4 _ (hp p hp1)
        generalize p.1 = z at *
        cases z <;> first | (cases this; done) | skip
        rename_i l
        cases l with
        | nil => cases this
        | cons y l => exact ⟨toP y, toPs l, by simp only [toP, toPs]⟩
      · rw [List.all_eq_true] at c4
        refine .inr fun d hd => ?_
        obtain ⟨p, hp1, rfl⟩ := List.mem_map.mp hd
        have h4 := c4 _ (hp p hp1)
        have h5 := c1 _ (hp p hp1)
        generalize p.1 = z at *
        cases z with
        | non => cases h4
        | tup l => cases h4
        | dic _ _ => simp [pd] at h5
        | scr _ => simp [pd] at h5
        | fn _ => simp [pd] at h5
        | bl b => simp [toP]
        | int b => simp [toP]
        | str b => simp [toP]
        | lst b => simp [toP]
    · have : ps.length = xs.length := by rw [← e1, List.length_map]
      rw [this]; exact of_decide_eq_true c2
    · refine k _ _ (same_new hq) ?_ (topNew_ref hq)
      have e2 : sortL xs = (ps.mergeSort (PySem.W.dataLe false fun p => toP p.1)).map (·.1) := by
        unfold sortL
        rw [← e1]
        exact (List.map_mergeSort (r := PySem.W.dataLe false fun p : D × V => toP p.1) (s := fun d e => PySem.W.dataLe false toP d e) (f := fun p : D × V => p.1) (l := ps) fun a _ b _ => rfl).symm
      rw [e2]
      refine rep_newL fr hq (RepL.ofPairs fun p hp => h3 p ?_)
      exact (List.mergeSort_perm ps _).mem_iff.mp hp
  · rw [if_neg c] at e; cases e
end RE
/-! RE13d: sets of keys (whole numbers, texts) whose tables rise: made of a list, by a comprehension, told in order. -/
namespace KS
open PySem PySem.Spec PyProof.Rows L2

/-- the key that a value bears -/
def vKey : Value → Key
  | .int k _ => .inl k
  | .str x _ => .inr x
  | _ => .inl 0
theorem vKey_of {k : Key} {v : Value} (h : keyIs k v = true) : vKey v = k := by
  rcases keyIs_shape h with ⟨i, t, rfl, rfl⟩ | ⟨x, t, rfl, rfl⟩ <;> rfl
theorem scan_of {k : Key} {v : Value} (h : keyIs k v = true) : v.scannable = true := by
  rcases keyIs_shape h with ⟨i, t, rfl, rfl⟩ | ⟨x, t, rfl, rfl⟩ <;> rfl
/-- is the key among these? -/
def hasK (l : List Key) (k : Key) : Bool := l.any fun j => decide (j = k)
theorem hasK_iff {l : List Key} {k : Key} : hasK l k = true ↔ k ∈ l := by
  unfold hasK
  rw [List.any_eq_true]
  exact ⟨fun ⟨j, h, e⟩ => of_decide_eq_true e ▸ h, fun h => ⟨k, h, decide_eq_true rfl⟩⟩
theorem hasK_app (l : List Key) (k j : Key) : hasK (l ++ [k]) j = (hasK l j || decide (j = k)) := by
  unfold hasK
  rw [List.any_append, List.any_cons, List.any_nil, Bool.or_false]
  congr 1
  exact decide_eq_decide.mpr eq_comm
abbrev eKey (e : Int × Value) : Key := vKey e.2
def Fine (w : World) (e : Int × Value) : Prop := keyIs (eKey e) e.2 = true ∧ e.1 = keyH w (eKey e)
/-- a set's own data: entries, table, members M, how many -/
structure Data (w : World) (es : Array (Int × Value)) (t : SetTable) (M : Key → Bool) (n : Nat) : Prop where
  fine : ∀ e ∈ es.toList, Fine w e
  once : (es.toList.map eKey).Nodup
  mem : ∀ k, M k = true ↔ k ∈ es.toList.map eKey
  small : es.size < scanBound
  fits : t.fits es.size = true
  num : es.size = n
  ris : Ris t.place.toList
  led : w.params.followText "set-order" = true ∨ t.led = true
def KSet (w : World) (h : Heap) (a : Addr) (M : Key → Bool) (n : Nat) : Prop := ∃ o es ep t, h.get? a = some o ∧ o.ExactSet ∧ o.data = .set es ep t ∧ Data w es t M n
section
variable {P : Program} {w : World} {h h' : Heap} {a : Addr} {M : Key → Bool} {n : Nat}
theorem KSet.at (R : KSet w h a M n) (k : ∀ o, h.get? a = some o → h'.get? a = some o) : KSet w h' a M n := by
  obtain ⟨o, es, ep, t, q, r⟩ := R
  exact ⟨o, es, ep, t, k o q, r⟩
theorem KSet.congr {M' : Key → Bool} (R : KSet w h a M n) (e : ∀ k, M' k = M k) : KSet w h a M' n := by
  rw [show M' = M from funext e]; exact R
theorem fine_elems {l : List (Int × Value)} (g : ∀ e ∈ l, Fine w e) : ElemsOf (mixKind P w) l := fun e he => ⟨⟨eKey e, (g e he).1, (g e he).2⟩, scan_of (g e he).1⟩
theorem fine_is {e : Int × Value} (g : Fine w e) (k : Key) : (mixKind P w).is k e.2 = true ↔ eKey e = k := ⟨fun q => vKey_of q, fun q => q ▸ g.1⟩
theorem fine_mem {l : List (Int × Value)} (g : ∀ e ∈ l, Fine w e) (k : Key) : k ∈ l.map eKey ↔ ∃ e ∈ l, (mixKind P w).is k e.2 = true := by
  rw [List.mem_map]
  exact ⟨fun ⟨e, he, q⟩ => ⟨e, he, (fine_is (g e he) k).mpr q⟩, fun ⟨e, he, q⟩ => ⟨e, he, (fine_is (g e he) k).mp q⟩⟩
theorem KSet.setOf (R : KSet w h a M n) : h.SetOf (mixKind P w) a M n := by
  obtain ⟨o, es, ep, t, q, hx, hd, D⟩ := R
  exact ⟨o, es, ep, t, q, hx, hd, fine_elems D.fine, fun k => (D.mem k).trans (fine_mem D.fine k), D.small, D.fits, D.num⟩
end
section
variable {P : Program} {w : World} {A : Around} {E : Value → Shared → Prop} {s : Shared} {a : Addr} {M : Key → Bool} {n : Nat}
theorem put_end {g : Bool → Sem Unit} (hg : ∀ (b : Bool) (z : Shared) (K : Unit → Shared → Prop), K () z → wpAny (model P w) A (g b) K E z)
    {o : Obj} {es : Array (Int × Value)} {ep : Nat} {t : SetTable} (q : s.heap.get? a = some o) (hx : o.ExactSet) (hd : o.data = .set es ep t)
    {es1 : Array (Int × Value)} {t2 : SetTable} {M' : Key → Bool} (D1 : Data w es1 t2 M' es1.size) {was : Bool} {R : Option Bool → Shared → Prop}
    (hR : ∀ h', Heap.SameBut a s.heap h' → KSet w h' a M' es1.size → R (some true) { s with heap := h' }) :
    wpAny (model P w) A (storeSet a es1 t2 >>= fun _ => if (!was && t2.tooFull) = true then (g (relayAll t2 es1 (SetTable.grown es1.size)).2.2 >>= fun _ => storeSet a (relayAll t2 es1 (SetTable.grown es1.size)).1 (relayAll t2 es1 (SetTable.grown es1.size)).2.1 >>= fun _ => pure (some true)) else pure (some true)) R E s := by
  refine wpAny_bind (wpAny_storeSet_of q hd ?_ (fits_of_scanBound D1.small))
  have q1 := store_at (es' := es1) (t' := t2) q hd
  have b1 := Heap.SameBut.update s.heap a (Obj.putSet es1 t2)
  by_cases c : (!was && t2.tooFull) = true
  · rw [if_pos c]
    have p1 := relayAll_perm t2 es1 (SetTable.grown es1.size)
    have p2 := relayAll_fits t2 es1 (SetTable.grown es1.size)
    have p3 := relayAll_ris t2 es1 (SetTable.grown es1.size)
    have p4 := relayAll_led t2 es1 (SetTable.grown es1.size)
    generalize relayAll t2 es1 (SetTable.grown es1.size) = Y at p1 p2 p3 p4 ⊢
    obtain ⟨es2, t3, gv⟩ := Y
    dsimp only at p1 p2 p3 p4 ⊢
    have e2 : es2.size = es1.size := by rw [← Array.length_toList, p1.length_eq, Array.length_toList]
    refine wpAny_bind (hg _ _ _ (wpAny_bind (wpAny_storeSet_of q1 rfl (wpAny_pure (hR _ (b1.trans (Heap.SameBut.update _ a _)) ?_)) (fits_of_scanBound (by rw [e2]; exact D1.small)))))
    exact ⟨_, es2, _, t3, store_at (es' := es2) (t' := t3) q1 rfl, hx, rfl, fun e he => D1.fine e (p1.mem_iff.mp he), (p1.map eKey).nodup_iff.mpr D1.once, fun k => (D1.mem k).trans (p1.map eKey).mem_iff.symm, by rw [e2]; exact D1.small, p2, e2, p3, D1.led.imp id fun z => by rw [p4]; exact z⟩
  · rw [if_neg c]
    exact wpAny_pure (hR _ b1 ⟨_, es1, _, t2, q1, hx, rfl, D1⟩)
theorem put_hashed {k : Key} {v : Value} {Q : Bool → Shared → Prop} (hv : keyIs k v = true) (R : KSet w s.heap a M n) (room : n + 1 < scanBound)
    (hQ : ∀ h', Heap.SameBut a s.heap h' → KSet w h' a (fun j => M j || decide (j = k)) (if M k = true then n else n + 1) → Q (!M k) { s with heap := h' }) :
    wpAny (model P w) A (setAddHashed a v ((mixKind P w).hash k)) Q E s := by
  obtain ⟨o, es, ep, t, q, hx, hd, D⟩ := R
  have hk : (mixKind P w).is k v = true := hv
  have hel : ElemsOf (mixKind P w) es.toList := fine_elems D.fine
  unfold setAddHashed setAddHashedIn
  refine wpAny_holding (wpAny_bind (wpAny_setState_of q hd D.fits ?_))
  dsimp only
  rw [byScan_of (scan_of hv) D.small hel]
  simp only [↓reduceIte]
  unfold setAddByScan
  refine wpAny_bind (wpAny_bind (wpAny_rule (wpAny_bind (wpAny_setScan_of hk q hd D.fits hel ?_))))
  cases hf : List.findIdx? (fun e => (mixKind P w).is k e.2) es.toList with
  | some j =>
    dsimp only
    obtain ⟨hj, pj, _⟩ := List.findIdx?_eq_some_iff_getElem.mp hf
    have hM : M k = true := (D.mem k).mpr ((fine_mem (P := P) D.fine k).mpr ⟨es.toList[j], List.getElem_mem hj, pj⟩)
    have z := hQ s.heap (Heap.SameBut.refl a s.heap) ⟨o, es, ep, t, q, hx, hd, ⟨D.fine, D.once, fun i => by
      rw [Bool.or_eq_true, decide_eq_true_eq, ← D.mem i]
      exact ⟨fun y => y.elim id (fun e => e ▸ hM), .inl⟩, D.small, D.fits, by rw [if_pos hM]; exact D.num, D.ris, D.led⟩⟩
    rw [hM] at z
    exact wpAny_pure (wpAny_pure z)
  | none =>
    dsimp only
    have hn : k ∉ es.toList.map eKey := fun z => by
      obtain ⟨e, he, y⟩ := (fine_mem (P := P) D.fine k).mp z
      have c := List.findIdx?_eq_none_iff.mp hf e he
      rw [y] at c
      cases c
    have hM : M k = false := by
      cases y : M k with
      | false => rfl
      | true => exact absurd ((D.mem k).mp y) hn
    have p1 := layNew_perm t es ((mixKind P w).hash k) v
    have p2 := layNew_fits t es ((mixKind P w).hash k) v
    have p3 := layNew_ris t es ((mixKind P w).hash k) v D.ris
    have p4 := layNew_led t es ((mixKind P w).hash k) v
    generalize layNew t es ((mixKind P w).hash k) v = Y at p1 p2 p3 p4 ⊢
    obtain ⟨es1, t1, was, gv⟩ := Y
    dsimp only at p1 p2 p3 p4 ⊢
    rw [Array.toList_push] at p1
    have pc : es1.toList.Perm (((mixKind P w).hash k, v) :: es.toList) := p1.trans (List.perm_append_singleton _ _)
    have pk : (es1.toList.map eKey).Perm (k :: es.toList.map eKey) := by
      have z := pc.map eKey
      rw [List.map_cons, show eKey ((mixKind P w).hash k, v) = k from vKey_of hv] at z
      exact z
    have e1 : es1.size = n + 1 := by rw [← Array.length_toList, pc.length_eq, List.length_cons, Array.length_toList, D.num]
    have D1 : ∀ t2 : SetTable, t2.fits es1.size = true → Ris t2.place.toList → (w.params.followText "set-order" = true ∨ t2.led = true) → Data w es1 t2 (fun j => M j || decide (j = k)) es1.size := fun t2 f2 r2 l2 =>
      ⟨fun e he => by
        rcases List.mem_cons.mp (pc.mem_iff.mp he) with z | z
        · rw [z]
          unfold Fine
          rw [show eKey ((mixKind P w).hash k, v) = k from vKey_of hv]
          exact ⟨hv, rfl⟩
        · exact D.fine e z, pk.nodup_iff.mpr (List.nodup_cons.mpr ⟨hn, D.once⟩), fun i => by
        rw [Bool.or_eq_true, decide_eq_true_eq, D.mem i, pk.mem_iff, List.mem_cons]
        exact Or.comm, by rw [e1]; exact room, f2, rfl, r2, l2⟩
    have hl1 : w.params.followText "set-order" = true ∨ t1.led = true := D.led.imp id fun z => by rw [p4]; exact z
    have fin : ∀ h', Heap.SameBut a s.heap h' → KSet w h' a (fun j => M j || decide (j = k)) es1.size → Q true { s with heap := h' } := fun h' sb r => by
      have z := hQ h' sb
      rw [hM] at z
      rw [e1] at r
      exact z r
    have gw : ∀ (b : Bool) {z : Shared} {K : Unit → Shared → Prop}, K () z → wpAny (model P w) A (match b with | true => rule "set.scan.the-table-gave-way" | false => pure ()) K E z :=
      fun b z K y => by cases b <;> first | exact wpAny_pure y | exact wpAny_rule y
    refine wpAny_bind (gw _ ?_)
    split
    · refine wpAny_bind ?_
      rw [hashByValue_scannable 8 (scan_of hv)]
      refine wpAny_pure ?_
      refine put_end (fun b z K y => by cases b <;> first | exact wpAny_pure y | exact wpAny_rule y) q hx hd (D1 _ ?_ ?_ ?_) ?_
      · first | (split <;> first | exact p2 | exact SetTable.fits_plain_off p2) | exact p2
      · first | (split <;> exact p3) | exact p3
      · first | (split <;> exact hl1) | exact hl1
      · intro h' sb r; dsimp only; exact wpAny_pure (fin h' sb r)
    · refine wpAny_bind (wpAny_pure ?_)
      simp only [↓reduceIte]
      refine put_end (fun b z K y => by cases b <;> first | exact wpAny_pure y | exact wpAny_rule y) q hx hd (D1 _ p2 p3 hl1) ?_
      intro h' sb r; dsimp only; exact wpAny_pure (fin h' sb r)
theorem put_key {k : Key} {v : Value} {Q : Value → Shared → Prop} (hv : keyIs k v = true) (R : KSet w s.heap a M n) (room : n + 1 < scanBound)
    (hQ : ∀ h', Heap.SameBut a s.heap h' → KSet w h' a (fun j => M j || decide (j = k)) (if M k = true then n else n + 1) → Q .none { s with heap := h', toks := s.toks + 1 }) :
    wpAny (model P w) A (call (.builtin "set.add") [.ref a, v]) Q E s := by
  have hS : s.heap.SetOf (mixKind P w) a M n := R.setOf
  refine wpAny_call_entry F.slot_set_add hS.typeIs F.entry_set_add ?_ (F.args_set_add_2 _ _)
  unfold Builtin.«set.add» Builtin.Frozenset.oneOther
  simp only [List.isEmpty_nil, bind_assoc]
  unfold Builtin.Frozenset.addrOf setAdd
  refine wpAny_bind (wpAny_pure ?_)
  try dsimp only
  refine wpAny_bind (wpAny_pure ?_)
  try dsimp only
  refine wpAny_bind (wpAny_holding (wpAny_bind ((mixKind P w).pyHash (k := k) hv (put_hashed (s := { s with toks := s.toks + 1 }) hv R room fun h' sb r => ?_))))
  exact (show wpAny _ _ (ret Value.none) _ _ _ from wpAny_pure ⟨_, rfl, hQ h' sb r⟩)
/-- a fresh set -/
abbrev freshO (w : World) : Obj := { cls := .type "set", dict := none, data := .set #[] 0 (.fresh 0 0 (!w.params.followText "set-order")) }
theorem fresh_at {h : Heap} {a : Addr} (q : h.get? a = some (freshO w)) : KSet w h a (fun _ => false) 0 :=
  ⟨_, #[], 0, _, q, ⟨rfl, rfl, rfl⟩, rfl, (fun e he => by simp at he), (by simp), (fun k => by simp), (by decide), (by rfl), rfl, List.Pairwise.nil, by
    show _ ∨ (!w.params.followText "set-order") = true
    cases w.params.followText "set-order"
    · exact .inr rfl
    · exact .inl rfl⟩
end
section
variable {P : Program} {w : World} {A : Around} {E : Value → Shared → Prop} {s : Shared}
/-- the loop that fills a set -/
theorem fill_keys {I : Addr} {fp wr : List Addr} {G : Array GenState → Array GenState → Prop} {n : Nat} {Pv : Nat → Value → Prop} {St : Nat → Shared → Prop} {R : Result → Shared → Prop}
    (W : WalksS P w A.in1 I fp wr G n Pv St) (S : Addr) (nS : S ∉ fp) (ks : List Key) (hn : n = ks.length) (hb : ks.length + 1 < scanBound) (hv : ∀ i v, Pv i v → ∃ k, ks[i]? = some k ∧ keyIs k v = true) :
    ∀ (m i : Nat) (s : Shared), n - i = m → i ≤ n → St i s → (∃ c, c ≤ i ∧ KSet w s.heap S (hasK (ks.take i)) c) →
      (∀ s' c, Moved (S :: wr) G s s' → c ≤ n → KSet w s'.heap S (hasK ks) c → R (.ok (.ret .none)) s') →
      codeAny (model P w) A (.builtin "set.update.loop" ⟨[.ref S, .ref I], []⟩) R s := by
  have nw : S ∉ wr := fun z => nS (W.sub _ z)
  have up : ∀ b ∈ wr, b ∈ S :: wr := fun b z => List.mem_cons_of_mem _ z
  intro m
  induction m with
  | zero =>
    intro i s hm hi st ⟨c, hc, hS⟩ hR
    obtain rfl : i = n := by omega
    refine codeAny_builtin F.entry_set_update_loop ?_
    rw [Around.under_plainId F.plain_set_update_loop _]
    show wpAny _ A.in1 (pyNext (.ref I) >>= _) _ _ s
    refine wpAny_bind (W.done s _ _ st fun s' mv => ?_)
    rw [List.take_of_length_le (by omega)] at hS
    exact (show wpAny _ A.in1 (ret Value.none) _ _ s' from wpAny_pure (hR s' c (mv.mono up) hc (hS.at fun o e => mv.heap S o nw e)))
  | succ m ih =>
    intro i s hm hi st ⟨c, hc, hS⟩ hR
    have lt : i < n := by omega
    refine codeAny_builtin F.entry_set_update_loop ?_
    rw [Around.under_plainId F.plain_set_update_loop _]
    show wpAny _ A.in1 (pyNext (.ref I) >>= _) _ _ s
    refine wpAny_bind (W.item i s _ _ lt st fun v s' hP st' mv => ?_)
    obtain ⟨k, hk, kv⟩ := hv i v hP
    have hS' : KSet w s'.heap S (hasK (ks.take i)) c := hS.at fun o e => mv.heap S o nw e
    show wpAny _ A.in1 (holding [v] (setAdd S v) >>= _) _ _ s'
    refine wpAny_bind (wpAny_holding ?_)
    unfold setAdd
    refine wpAny_holding (wpAny_bind ((mixKind P w).pyHash (k := k) kv ?_))
    refine put_hashed (s := { s' with toks := s'.toks + 1 }) kv hS' (by omega) fun h' sb hS2 => ?_
    have hS3 : KSet w h' S (hasK (ks.take (i + 1))) (if hasK (ks.take i) k = true then c else c + 1) := hS2.congr fun j => by
      rw [List.take_add_one, hk]
      exact hasK_app _ k j
    have c3 : (if hasK (ks.take i) k = true then c else c + 1) ≤ i + 1 := by split <;> omega
    refine wpAny_pure ⟨plainId_quiet F.plain_set_update_loop _, ih (i + 1) _ (by omega) lt (W.frame _ s' _ _ st' (Nat.le_succ _) fun b hb o e => ?_) ⟨_, c3, hS3⟩ fun s'' c2 mv'' hc'' hS'' => ?_⟩
    · rw [sb.2 b (fun z : b = S => nS (z ▸ hb))]; exact e
    · refine hR s'' c2 (Moved.trans W.gtrans ((mv.mono up).then_heap (Nat.le_succ _) fun b o hb e => ?_) mv'') hc'' hS''
      rw [sb.2 b (fun z : b = S => hb (z ▸ List.mem_cons_self))]; exact e
theorem new_at (h : Heap) : (h.push (freshO w)).get? h.objs.size = some (freshO w) := Heap.get?_push_size _ rfl
set_option maxRecDepth 100000 in
set_option maxHeartbeats 3200000 in
/-- set(xs), xs a list of keys -/
theorem set_of_list {l : Addr} {items : Array Value} (ks : List Key) {Q : Value → Shared → Prop} (hh : A.handled = none) (hl : s.heap.IsList l items) (hlen : items.size = ks.length) (hit : ∀ (i : Nat) (v : Value), items[i]? = some v → ∃ k, ks[i]? = some k ∧ keyIs k v = true) (hb : ks.length + 1 < scanBound)
    (h : ∀ (h' : Heap) (tk c : Nat), KSet w h' s.heap.objs.size (hasK ks) c → c ≤ ks.length → (∀ b o, s.heap.get? b = some o → h'.get? b = some o) → Q (.ref s.heap.objs.size) { s with heap := h', toks := tk }) :
    wpAny (model P w) A (call (.type "set") [.ref l]) Q E s := by
  obtain ⟨c, tl, mro⟩ := F.called_set.mro
  have made := F.called_set.made
  have sub := F.called_set.sub
  refine wpAny_call (codeAny_of_tree ?_)
  show wpAny _ _ (callAny (.type "set") _) _ _ _
  refine wpAny_pure ⟨Code.quiet_builtin _ (by decide +kernel), codeAny_builtin F.entry_type_call ?_⟩
  rw [Around.under_plain (weight_type_call_type "set" [.ref l] []) rfl]
  have g1 := F.called_set.notType
  have g2 := F.called_set.canCreate
  have g3 := F.typeCall_set_1 (.ref l)
  repeat (any_goals (first | assumption | wp_step))
  refine codeAny_mono (code_set_led1 (.ref l) (E := E) (Q₁ := fun obj z => obj = .ref s.heap.objs.size ∧ z = { s with heap := s.heap.push (freshO w) }) ⟨rfl, rfl⟩) fun r z hr => ?_
  cases r with
  | error e => exact hr
  | ok fl =>
    cases fl with
    | ret obj =>
      obtain ⟨rfl, rfl⟩ := hr
      have hS := new_at (w := w) s.heap
      have hT : Shared.TypeIs { s with heap := s.heap.push (freshO w) } (.ref s.heap.objs.size) "set" := ⟨_, hS, rfl⟩
      have li := F.called_set.init.lookup
      have bi := F.called_set.init.bind (.ref s.heap.objs.size)
      repeat (any_goals (first | assumption | wp_step))
      refine codeAny_mono (codeAny_call_builtin (R := wants (fun r z => r = .none ∧ ∃ h' tk c, z = { s with heap := h', toks := tk } ∧ KSet w h' s.heap.objs.size (hasK ks) c ∧ c ≤ ks.length ∧ (∀ b o, s.heap.get? b = some o → h'.get? b = some o)) E) F.called_set.init.plain F.entry_set_init (check_set_init_1 hT ?_)) fun r2 z2 hr2 => ?_
      · obtain ⟨ol, hol, hcl, nl, hdl⟩ := hl
        obtain ⟨ocls, odict, odata, oslots⟩ := ol
        simp only at hcl hdl
        subst hcl; subst hdl
        have hol' : (s.heap.push (freshO w)).get? l = some { cls := .type "list", dict := odict, data := .seq items nl, slots := oslots } := Heap.get?_push_of_some _ hol
        have s1 := F.sub_list_set
        have s2 := F.sub_list_frozenset
        have ne : (Value.type "list" == Value.type "dict") = false := by decide
        have l1 : (s.heap.push (freshO w)).IsList l items := ⟨_, hol', rfl, nl, rfl⟩
        unfold Builtin.«set.__init__» noKeywords Builtin.Frozenset.updateFrom
        generalize hPI : pyIter = PI
        wp_walk
        subst hPI
        refine wpAny_pyIter_list l1 (wpAny_bind (wpAny_runValue ?_))
        have lS : l < s.heap.objs.size := Heap.lt_size hol
        have h3 : A.in1.in1.in1.handled = none := by simp [hh]
        have sz : (s.heap.push (freshO w)).objs.size = s.heap.objs.size + 1 := Heap.size_push ..
        have nI : l ≠ (s.heap.push (freshO w)).objs.size := by rw [sz]; exact Nat.ne_of_lt (Nat.lt_succ_of_lt lS)
        have nf : s.heap.objs.size ∉ [(s.heap.push (freshO w)).objs.size, l] := by
          rw [sz]; simp only [List.mem_cons, List.mem_singleton, List.not_mem_nil, or_false, not_or]
          exact ⟨Nat.ne_of_lt (Nat.lt_succ_self _), Nat.ne_of_gt lS⟩
        refine fill_keys ((Walks.list h3 _ l nI items).toS) s.heap.objs.size nf ks hlen hb hit (items.size - 0) 0 _ (by omega) (Nat.zero_le _) ⟨⟨_, Heap.get?_push_size _ rfl, rfl, rfl⟩, (l1.push _)⟩ ?zero ?rest
        case zero => exact ⟨0, Nat.le_refl 0, (fresh_at (Heap.get?_push_of_some _ hS)).congr fun k => rfl⟩
        case rest =>
          intro s' c' mv hc' hS'
          obtain ⟨h', gg, dd, tk', os'⟩ := s'
          obtain rfl : gg = s.gens := mv.gens
          obtain rfl : dd = s.drawn := mv.drawn
          obtain rfl : os' = s.os := mv.os
          show wpAny _ _ _ _ _ _
          refine wpAny_pure ?_
          show wpAny _ _ (ret Value.none) _ _ _
          refine wpAny_pure ⟨rfl, h', tk', c', rfl, hS', by omega, fun b o e => ?_⟩
          have bl : b < s.heap.objs.size := Heap.lt_size e
          refine mv.heap b o (fun z => ?_) (Heap.get?_push_of_some _ (Heap.get?_push_of_some _ e))
          rcases List.mem_cons.mp z with z | z
          · exact absurd bl (by rw [z]; exact Nat.lt_irrefl _)
          · have z := List.mem_singleton.mp z
            have z : b = (s.heap.push (freshO w)).objs.size := z
            rw [sz] at z
            exact absurd bl (by rw [z]; exact Nat.not_lt_of_le (Nat.le_succ _))
      · cases r2 with
        | error e => exact hr2
        | ok fl2 =>
          cases fl2 with
          | ret r =>
            obtain ⟨rfl, h', tk, c', rfl, hS', hc', hk'⟩ := hr2
            repeat (any_goals (first | assumption | wp_step))
            exact h _ _ _ hS' hc' hk'
          | _ => exact hr2.elim
    | _ => exact hr.elim
end
section
variable {P : Program} {w : World} {A : Around} {E : Value → Shared → Prop} {s : Shared} {a : Addr} {M : Key → Bool} {n : Nat}
def kP : Key → PyData
  | .inl i => .int i
  | .inr x => .str x
/-- all numbers, or all texts -/
def OneKind (ks : List Key) : Prop := (∀ k ∈ ks, ∃ i, k = .inl i) ∨ ∀ k ∈ ks, ∃ x, k = .inr x
theorem alike_keys {ks : List Key} (h : OneKind ks) : PySem.W.AllAlike (ks.map kP) ∧ PySem.W.Sortable (ks.map kP) := by
  constructor
  · intro d hd d' hd'
    obtain ⟨k, hk, rfl⟩ := List.mem_map.mp hd
    obtain ⟨k', hk', rfl⟩ := List.mem_map.mp hd'
    rcases h with h | h
    · obtain ⟨i, rfl⟩ := h k hk
      obtain ⟨j, rfl⟩ := h k' hk'
      simp [kP, PySem.W.alike]
    · obtain ⟨i, rfl⟩ := h k hk
      obtain ⟨j, rfl⟩ := h k' hk'
      simp [kP, PySem.W.alike]
  · refine .inr fun d hd => ?_
    obtain ⟨k, hk, rfl⟩ := List.mem_map.mp hd
    cases k <;> exact ⟨fun z => (by cases z), fun xs z => (by cases z)⟩
theorem each_keys {h : Heap} : ∀ {l : List Value}, (∀ v ∈ l, keyIs (vKey v) v = true) → PySem.W.EachIs (fun v k => keyIs k v = true) l (l.map vKey) ∧ PySem.W.EachIs (fun v k => ∃ as, Reads h v (kP k) as ∧ as = []) l (l.map vKey)
  | [], _ => ⟨.nil, .nil⟩
  | v :: l, hv => by
    obtain ⟨h1, h2⟩ := each_keys (h := h) fun u hu => hv u (List.mem_cons_of_mem _ hu)
    have h0 := hv v List.mem_cons_self
    refine ⟨.cons h0 h1, .cons ?_ h2⟩
    rcases keyIs_shape h0 with ⟨i, t, e, rfl⟩ | ⟨x, t, e, rfl⟩
    · exact ⟨[], .int i t, rfl⟩
    · exact ⟨[], .str x t, rfl⟩
/-- sorted(set) -/
theorem sorted_kset {Q : Value → Shared → Prop} (R : KSet w s.heap a M n) (hh : A.handled = none) (hn : n ≤ 1000) (hu : A.units + 8 < cLine) (hk : ∀ ks : List Key, (∀ k ∈ ks, M k = true) → OneKind ks)
    (hQ : ∀ s' p (out : Array Value) (c : Nat) (ks : List Key), (∀ b o, s.heap.get? b = some o → s'.heap.get? b = some o) → s'.gens = s.gens → s'.os = s.os → s.heap.objs.size ≤ p →
      s'.heap.get? p = some (seqObj "list" out c) → PySem.W.EachIs (fun v k => keyIs k v = true) out.toList (ks.mergeSort (PySem.W.dataLe false kP)) → ks.Nodup → (∀ k, k ∈ ks ↔ M k = true) → ks.length = n → Q (.ref p) s') :
    wpAny (model P w) A (call (.builtin "sorted") [.ref a]) Q E s := by
  obtain ⟨o, es, ep, t, q, hx, hd, D⟩ := R
  refine Calls.call_function_entry kind_sorted plain_sorted entry_sorted (args_sorted1 _) ?_
  unfold Builtin.«sorted»
  refine wpAny_bind (m := checkCount "sorted" 1 1 _) (wpAny_pure ?_)
  refine wpAny_bind (collect_set (A := A.in1) hh ⟨o, q, hx.1, hd⟩ D.fits D.small D.ris D.led fun s1 vs k1 hz g1 o1 pm => ?_)
  have vl : vs.length = n := by rw [pm.length_eq, List.length_map, Array.length_toList]; exact D.num
  have pk : (vs.map vKey).Perm (es.toList.map eKey) := by
    have z := pm.map vKey
    rw [List.map_map] at z
    exact z
  have hv : ∀ v ∈ vs, keyIs (vKey v) v = true := fun v hv => by
    obtain ⟨e, he, rfl⟩ := List.mem_map.mp (pm.mem_iff.mp hv)
    exact (D.fine e he).1
  have hm : ∀ k, k ∈ vs.map vKey ↔ M k = true := fun k => by rw [pk.mem_iff, ← D.mem k]
  refine wpAny_bind (wpAny_newList ?_ (by rw [vl, sizeLine_eq]; omega))
  have hL : (s1.heap.push (seqObj "list" vs.toArray 0)).get? s1.heap.objs.size = some (seqObj "list" vs.toArray 0) := Heap.get?_push_size _ rfl
  obtain ⟨al, so⟩ := alike_keys (hk (vs.map vKey) fun k h => (hm k).mp h)
  obtain ⟨e1, e2⟩ := each_keys (h := s1.heap.push (seqObj "list" vs.toArray 0)) hv
  refine wpAny_bind (wpAny_holding (PySem.W.list_sort_data (s := { s1 with heap := s1.heap.push (seqObj "list" vs.toArray 0) }) (enc := kP) hL e1 (e2.mono fun v k h => ?_) al so ?_ ?_ fun out ho eo => ?_))
  · obtain ⟨as, h1, rfl⟩ := h
    exact ⟨[], h1, by simp⟩
  · rw [List.length_map, vl, sizeLine_eq]; omega
  · intro k _
    have : (kP k).depth = 0 := by cases k <;> rfl
    rw [this]
    first
      | exact (show A.units + 1 + 0 < cLine by omega)
      | exact (show A.units + 1 + 1 + 0 < cLine by omega)
      | exact (show A.units + 1 + 1 + 1 + 0 < cLine by omega)
      | exact (show A.units + 1 + 1 + 1 + 1 + 0 < cLine by omega)
  · obtain ⟨c, hc⟩ := sortedHeap_at (vs := vs) (out := List.toArray out) hL
    refine wpAny_pure ⟨_, rfl, hQ _ s1.heap.objs.size (List.toArray out) c (vs.map vKey) (fun b u e => ?_) g1 o1 hz hc eo (pk.nodup_iff.mpr D.once) hm (by rw [List.length_map]; exact vl)⟩
    have z := k1 b u e
    have lt := Heap.lt_size z
    show (sortedHeap (s1.heap.push (seqObj "list" vs.toArray 0)) s1.heap.objs.size vs (List.toArray out)).get? b = some u
    rw [sortedHeap_old (Nat.ne_of_lt lt) (by rw [size_push']; exact Nat.lt_succ_of_lt lt)]
    exact Heap.get?_push_of_some _ z
end
section
/-- the set of keys at a, as a tracked thing -/
def KO (w : World) (a : Addr) (M : Key → Bool) (n : Nat) : HO := .ext fun h => KSet w h a M n
theorem ko_new {w : World} {P : Program} {H : Hp} {h : Heap} {a : Addr} {M : Key → Bool} {n : Nat} (R : KSet w h a M n) : ObjOk P w H h a (KO w a M n) := by
  have ⟨o, _, _, _, ho, _⟩ := R
  exact ⟨R, ⟨o, ho⟩, fun h1 h2 p k => KSet.at p k⟩
variable {X : Cx}
theorem ko_get {pins : List (Addr × Obj)} {σ : L2.St} {H : Hp} {s : Shared} {a : Addr} {M : Key → Bool} {n : Nat} (I : Inv X pins σ H s) (ha : H a = some (KO X.w a M n)) : KSet X.w s.heap a M n := (I.hok a _ ha).1
theorem ko_add {pins : List (Addr × Obj)} {σ : L2.St} {H : Hp} {s : Shared} {E : Value → Shared → Prop} {D : Addr} {M : Key → Bool} {n : Nat} {k : Key} {v : Value} {Q : Value → Shared → Prop} (I : Inv X pins σ H s) (hv : keyIs k v = true) (hD : H D = some (KO X.w D M n)) (room : n + 1 < scanBound)
    (h : ∀ s', Inv X pins σ (upd H D (KO X.w D (fun j => M j || decide (j = k)) (if M k = true then n else n + 1))) s' → Q .none s') : wpAny (model X.prog X.w) X.A (call (.builtin "set.add") [.ref D, v]) Q E s := by
  refine put_key hv (ko_get I hD) room fun h' sb new => ?_
  have he : ∃ u, h'.get? D = some u := by
    have ⟨o, _, _, _, ho, _⟩ := new
    exact ⟨o, ho⟩
  exact h _ (I.write (e := D) (t' := s.toks + 1) (by rw [hD]; trivial) (.inl rfl) (fun b u hb hu => (sb.2 b hb).trans hu) he (ko_new new))
theorem vals_keys : ∀ {ks : List Key} {us : List Value}, Vals (ks.map kV) us → us.length = ks.length ∧ ∀ (i : Nat) (v : Value), us[i]? = some v → ∃ k, ks[i]? = some k ∧ keyIs k v = true
  | [], _, .nil => ⟨rfl, fun i v h => by simp at h⟩
  | k :: ks, _, .cons r t => by
    obtain ⟨h1, h2⟩ := vals_keys t
    refine ⟨by rw [List.length_cons, List.length_cons, h1], fun i v h => ?_⟩
    cases i with
    | zero =>
      rw [List.getElem?_cons_zero] at h ⊢
      cases h
      refine ⟨k, rfl, ?_⟩
      cases k with
      | inl i =>
        obtain ⟨u, rfl⟩ := r
        exact keyIs_int i u
      | inr x =>
        obtain ⟨u, rfl⟩ := r
        exact keyIs_str x u
    | succ i =>
      rw [List.getElem?_cons_succ] at h ⊢
      exact h2 i v h
/-- set(xs) by values -/
def rSetK (K : PySem.W.Frag) (w : World) : List V → Hp → VK → Prop := fun xs H Q => ∃ (l : Addr) (ks : List Key), xs = [V.ref l] ∧ SqL K H l (ks.map kV) ∧ ks.length ≤ 900 ∧
  ∀ a c, H a = none → c ≤ ks.length → Q (.ref a) (upd H a (KO w a (hasK ks) c))
theorem cr_setK (hc : X.calm = true) : CallR X (.type "set") (rSetK X.K X.w) := by
  intro pins s σ H xs us Q I r h
  obtain ⟨l, ks, rfl, hl, hf, q⟩ := h
  rw [Vals.ref1 r]
  obtain ⟨its, rv, pl, hz⟩ := I.list hl
  obtain ⟨v1, v2⟩ := vals_keys rv
  have hn : H s.heap.objs.size = none := I.hok.fresh (Nat.le_refl _)
  refine set_of_list (P := X.prog) (w := X.w) ks (I.ok.hd hc) pl.isList (by rw [List.size_toArray]; exact v1) (fun i v hi => v2 i v (by simpa using hi)) (by unfold scanBound; omega) fun h' tk c R hc' k => ?_
  exact ⟨.ref s.heap.objs.size, upd H s.heap.objs.size (KO X.w s.heap.objs.size (hasK ks) c), I.laid (t' := tk) k (Nat.le_refl _) (ko_new R), rfl, q _ c hn hc'⟩
/-- sorted(set) by values -/
def rSortK (w : World) : List V → Hp → VK → Prop := fun vs H Q => ∃ (a : Addr) (M : Key → Bool) (n : Nat), vs = [V.ref a] ∧ H a = some (KO w a M n) ∧ n ≤ 1000 ∧ (∀ ks : List Key, (∀ k ∈ ks, M k = true) → OneKind ks) ∧
  ∀ (ks : List Key) (p : Addr), ks.Nodup → (∀ k, k ∈ ks ↔ M k = true) → H p = none → Q (.ref p) (upd H p (.lst ((ks.mergeSort (PySem.W.dataLe false kP)).map kV)))
theorem vals_each : ∀ {us : List Value} {ks : List Key}, PySem.W.EachIs (fun v k => keyIs k v = true) us ks → Vals (ks.map kV) us
  | _, _, .nil => .nil
  | _, _, .cons (b := k) h t => by
    refine .cons ?_ (vals_each t)
    rcases keyIs_shape h with ⟨i, u, rfl, rfl⟩ | ⟨x, u, rfl, rfl⟩
    · exact ⟨u, rfl⟩
    · exact ⟨u, rfl⟩
theorem cr_sortK (hc : X.calm = true) (hu : X.A.units + 128 < cLine) : CallR X (.builtin "sorted") (rSortK X.w) := by
  intro pins s σ H vs us Q I r h
  obtain ⟨a, M, n, rfl, ha, hn, hk, q⟩ := h
  rw [Vals.ref1 r]
  refine sorted_kset (ko_get I ha) (I.ok.hd hc) hn (by omega) hk fun s' p out c ks k g o hp hg hout nd mem len => ?_
  have hv := vals_each hout
  have hl : ((ks.mergeSort (PySem.W.dataLe false kP)).map kV).length ≤ sizeLine := by rw [List.length_map, List.length_mergeSort, len, sizeLine_eq]; omega
  have hno : H p = none := I.hok.fresh hp
  have J : Inv X pins σ (upd H p (.lst ((ks.mergeSort (PySem.W.dataLe false kP)).map kV))) { s with heap := s'.heap, gens := s'.gens, drawn := s'.drawn, toks := s'.toks } :=
    I.call (ch := []) (Un.laid k hp hno) (I.hok.laid k hp ⟨hl, out.toList, c, hv, hg⟩) (by rw [g]; exact I.bare) (fun _ z => nomatch z)
  have e : s' = { s with heap := s'.heap, gens := s'.gens, drawn := s'.drawn, toks := s'.toks } := by
    cases s'
    cases s
    cases o
    rfl
  rw [e]
  exact ⟨.ref p, _, J, rfl, q ks p nd mem hno⟩
end
end KS
/-! RE13e: sets of keys by a comprehension; sorted(set(..)), sorted({..}). -/
namespace KS
open PySem PySem.Spec PyProof.Rows L2 PpSet
section
variable {X : Cx}
/-- {elt for target in iter if ..}, elt a key -/
def tSk (w : World) (wi : TI) (g : TG) (tt : TT) (te : TE) (vs : List Nat) : TE := fun σ H Q => wi σ H fun J H1 => ∀ D, H1 D = none → ∃ W : Nat → Nat → Hp → Prop, (∃ m, W 0 m (upd H1 D (KO w D (fun _ => false) 0))) ∧ ∀ i m H, W i m H →
  (J.stop i H ∧ Q (.ref D) H) ∨ (J.go i H ∧ ∃ Nx : Hp → Prop, (∀ H', Nx H' → ∃ m', m' < m ∧ W (i + 1) m' H') ∧ ∀ x H', J.yld i H x H' → g x (wipe σ vs) H' fun σ2 H2 => wipe σ2 vs = wipe σ vs ∧ tt σ2 H2 fun b H3 =>
    if b = true then te σ2 H3 fun y H4 => ∃ (k : Key) (M : Key → Bool) (n : Nat), y = kV k ∧ H4 D = some (KO w D M n) ∧ n + 1 < scanBound ∧ Nx (upd H4 D (KO w D (fun j => M j || decide (j = k)) (if M k = true then n else n + 1))) else Nx H3)
theorem sk_core {pins : List (Addr × Obj)} {s : Shared} {σ : L2.St} {H : Hp} {Q : VK} {elt tg iter : Expr} {ifs : List Expr} {scope : Scope} {own : List (PySem.Str × Nat)} {p1 p2 : Pos} {wi : TI} {g : TG} {tt : TT} {te : TE} {use : Option (Value → Sem Unit)} {Qf : Value → Shared → Prop}
    (hc : X.calm = true) (hN : X.N.Nodup) (I : Inv X pins σ H s) (hi : PI X tg iter wi) (ok : BlkOk X.N X.env.scope scope own)
    (hg : ∀ (s : Shared) (H : Hp) (C : Addr) (cl : List (PySem.Str × Addr)) (fp : List Addr), PG (X.blk s H scope (compEnvC scope cl C X.env) fp) tg g)
    (ht : ∀ (s : Shared) (H : Hp) (C : Addr) (cl : List (PySem.Str × Addr)) (fp : List Addr), PTs (X.blk s H scope (compEnvC scope cl C X.env) fp) ifs tt)
    (he : ∀ (s : Shared) (H : Hp) (C : Addr) (cl : List (PySem.Str × Addr)) (fp : List Addr), PE (X.blk s H scope (compEnvC scope cl C X.env) fp) elt te)
    (hs : ∀ x, foldedSetIterable iter X.env x = pure x) (h : tSk X.w wi g tt te (own.map (·.2)) σ H Q)
    (hE : ∀ D C z m H', Inv X pins σ H' z → Q (.ref D) H' → z.heap.Ns C m → FpOk X pins H' C → compPost (model X.prog X.w) X.A X.xe use Qf (.ref D) C (.ok .next) z) :
    wpAny (model X.prog X.w) X.A (comprehension (.SetComp elt [⟨tg, iter, ifs, 0⟩] scope p1) scope X.env p2 (newSet (.type "set")) false (eval iter X.env) use) Qf X.xe s := by
  have fr : ∀ y ∈ scope.names, y.2 = .free → ∃ c, X.env.cells.lookup y.1 = some c := fun y hy e => (ok.free y hy e).elim (fun k => I.ok.has _ (.inl k)) fun k => I.ok.has _ (.inr k)
  refine wpAny_comprehension_free (use := use) rfl hs (closure_ok fr) ok.kind (fun y hy e => by rw [ok.uniq y hy, e]) (thn (hi.run pins s σ H _ I h) fun _ s1 hx => thn hx fun _ s2 ⟨it, fp, tn, J, H2, e0, I2, T, t2, f2, q⟩ => ?_)
  subst e0
  refine newSet_ok (newEnv_comp ?_)
  generalize eD : s2.heap.objs.size = D
  have nD : H2 D = none := I2.hok.fresh (Nat.le_of_eq eD)
  obtain ⟨W, ⟨m0, w0⟩, turn⟩ := q D nD
  generalize e3 : ({ s2 with heap := s2.heap.push (freshO X.w) } : Shared) = s3
  have h3 : s3.heap = s2.heap.push (freshO X.w) := by rw [← e3]
  have I3 : Inv X pins σ (upd H2 D (KO X.w D (fun _ => false) 0)) s3 := by
    rw [← e3]
    refine I2.laid (t' := s2.toks) (fun b o e => Heap.get?_push_of_some _ e) (Nat.le_of_eq eD) ?_
    rw [← eD]
    exact ko_new (fresh_at (new_at s2.heap))
  have lt : ∀ b ∈ fp, b < s2.heap.objs.size := fun b hb => let ⟨_, e, _⟩ := T.obj _ _ t2 b hb; Heap.lt_size e
  have f3 : ∀ b ∈ fp, FpOk X pins (upd H2 D (KO X.w D (fun _ => false) 0)) b ∧ b < s3.heap.objs.size := fun b hb => by
    refine ⟨⟨?_, (f2 b hb).2⟩, by rw [h3, Heap.size_push]; exact Nat.lt_succ_of_lt (lt b hb)⟩
    rw [upd_ne (by rw [← eD]; exact Nat.ne_of_lt (lt b hb))]
    exact (f2 b hb).1
  have t3 : tn 0 s3.heap := T.keep _ _ _ t2 fun b _ o e => by rw [h3]; exact Heap.get?_push_of_some _ e
  have I4 := block_start I3 ok hN f3
  have pg := hg s3 (upd H2 D (KO X.w D (fun _ => false) 0)) s3.heap.objs.size (cellsFrom (s3.heap.objs.size + 1) scope.names (cloFrom X.env.cells scope.names [])) fp
  have pt := ht s3 (upd H2 D (KO X.w D (fun _ => false) 0)) s3.heap.objs.size (cellsFrom (s3.heap.objs.size + 1) scope.names (cloFrom X.env.cells scope.names [])) fp
  have pe := he s3 (upd H2 D (KO X.w D (fun _ => false) 0)) s3.heap.objs.size (cellsFrom (s3.heap.objs.size + 1) scope.names (cloFrom X.env.cells scope.names [])) fp
  show codeAny _ _ (.compStart (.SetComp elt [⟨tg, iter, ifs, 0⟩] scope p1) 0 (.ref it) (.ref D) (compEnvC scope (cellsFrom (s3.heap.objs.size + 1) scope.names (cloFrom X.env.cells scope.names [])) s3.heap.objs.size X.env)) (compPost (model X.prog X.w) X.A X.xe use Qf (.ref D) s3.heap.objs.size) { s3 with heap := pushCells (s3.heap.push { cls := .type "dict", data := .dict #[] }) scope.names }
  have nf : ∀ b ∈ fp, (upd H2 D (KO X.w D (fun _ => false) 0)) b = none := fun b hb => (f3 b hb).1.1
  generalize ec : compEnvC scope (cellsFrom (s3.heap.objs.size + 1) scope.names (cloFrom X.env.cells scope.names [])) s3.heap.objs.size X.env = ce at I4 pg pt pe ⊢
  have eL : ce.locals = s3.heap.objs.size := by subst ec; rfl
  generalize eH : upd H2 D (KO X.w D (fun _ => false) 0) = H3 at I3 I4 pg pt pe w0 nf f3
  generalize e4 : ({ s3 with heap := pushCells (s3.heap.push { cls := .type "dict", data := .dict #[] }) scope.names } : Shared) = s4 at I4 ⊢
  have t4 : tn 0 s4.heap := T.keep _ _ _ t3 fun b _ o e => by rw [← e4]; exact pushCells_keeps _ _ _ _ (Heap.get?_push_of_some _ e)
  have stat : ∀ {σ' : L2.St} {H' : Hp} {z : Shared}, Inv (X.blk s3 H3 scope ce fp) [] σ' H' z → (∀ b ∈ fp, H' b = none) → ∀ b ∈ fp, FpOk (X.blk s3 H3 scope ce fp) [] H' b := fun I' hn b hb =>
    ⟨hn b hb, (I'.ok.exf b hb).1, I'.ok.exfs b hb, .inl hb, fun x c e => (I'.ok.exf b hb).2 x c e, fun p hp => absurd (show p ∈ ([] : List (Addr × Obj)) ++ [] from hp) (by simp)⟩
  have loop : codeAny (model X.prog X.w) X.A (.compLoop (.SetComp elt [⟨tg, iter, ifs, 0⟩] scope p1) 0 (.ref it) (.ref D) ce) (compPost (model X.prog X.w) X.A X.xe use Qf (.ref D) s3.heap.objs.size) s4 := by
    refine compLoopS_any (fun n z => ∃ i H', Inv (X.blk s3 H3 scope ce fp) [] (wipe σ (own.map (·.2))) H' z ∧ tn i z.heap ∧ (∀ b ∈ fp, H' b = none) ∧ W i n H') ?_ m0 ⟨0, H3, I4, t4, nf, w0⟩
    rintro n s5 ⟨i, H5, I5, t5, n5, w5⟩
    rcases turn i n H5 w5 with ⟨stop, qq⟩ | ⟨go, Nx, hNx, step⟩
    · refine thnF (T.done (X.blk s3 H3 scope ce fp) rfl rfl rfl hc i [] s5 _ H5 (fun _ _ => False) I5 (stat I5 n5) t5 stop) fun r s6 ⟨er, I6⟩ => ?_
      subst er
      have I7 : Inv X pins σ H5 s6 := I3.call' (ch := fp) I6.os I6.base I6.hok I6.bare fun b hb => ⟨(f3 b hb).1.2.2.2.1, (f3 b hb).1.2.1, (f3 b hb).1.2.2.2.2.1, (f3 b hb).1.2.2.2.2.2⟩
      have nC : H5 s3.heap.objs.size = none := eL ▸ I6.free
      obtain ⟨m, hn, _⟩ := I6.loc
      have hn : s6.heap.Ns ce.locals m := hn
      rw [eL] at hn
      exact hE D s3.heap.objs.size s6 m H5 I7 qq hn (I3.fpOk (Nat.le_refl _) nC)
    · refine thnF (T.item (X.blk s3 H3 scope ce fp) rfl rfl rfl hc i [] s5 _ H5 (fun _ _ => False) I5 (stat I5 n5) t5 go) fun r s6 ⟨u, er, h6⟩ => ?_
      subst er
      refine thnF h6 fun _ s7 ⟨x, H7, I7, r7, y7, t7, n7⟩ => ?_
      refine thnF (pg.run _ s7 _ H7 x u _ (I7.pinned (stat I7 n7) (T.obj _ _ t7)) r7 (step x H7 y7)) fun _ s8 ⟨σ8, H8, I8, w8, q8⟩ => ?_
      refine thnF (pt.run _ s8 σ8 H8 _ I8 q8) fun b s9 ⟨H9, I9, q9⟩ => ?_
      have fin : ∀ {z : Shared} {H' : Hp}, Inv (X.blk s3 H3 scope ce fp) ([] ++ pinsAt fp s7.heap) σ8 H' z → Nx H' → ∃ m, m < n ∧ ∃ i H', Inv (X.blk s3 H3 scope ce fp) [] (wipe σ (own.map (·.2))) H' z ∧ tn i z.heap ∧ (∀ b ∈ fp, H' b = none) ∧ W i m H' := fun {z H'} I' nx => by
        obtain ⟨m', hm, w'⟩ := hNx H' nx
        have pin : ∀ b ∈ fp, ∀ o, s7.heap.get? b = some o → z.heap.get? b = some o ∧ H' b = none := fun b hb o e =>
          let y := I'.pin (b, o) (List.mem_append_right _ (List.mem_append_right _ (mem_pinsAt hb e)))
          ⟨y.1, y.2.1⟩
        refine ⟨m', hm, i + 1, H', (I'.unpinned (pins := [])).weak (by rw [← w8, wipe_length]) (fun j v e => ?_), T.keep _ _ _ t7 fun b hb o e => (pin b hb o e).1, fun b hb => ?_, w'⟩
        · rw [← w8] at e
          exact (wipe_some e).1
        · obtain ⟨o, e, _⟩ := T.obj _ _ t7 b hb
          exact (pin b hb o e).2
      cases b with
      | false =>
        simp only [Bool.false_eq_true, if_false] at q9 ⊢
        exact fin I9 q9
      | true =>
        simp only [if_true] at q9 ⊢
        refine thnF (pe.run _ s9 σ8 H9 _ I9 q9) fun u s10 ⟨y, H10, I10, r10, k, M, c, ey, hD, room, nx⟩ => ?_
        subst ey
        have hv : keyIs k u = true := by
          cases k with
          | inl j =>
            obtain ⟨z, rfl⟩ := r10
            exact keyIs_int j z
          | inr x =>
            obtain ⟨z, rfl⟩ := r10
            exact keyIs_str x z
        exact ko_add (X := X.blk s3 H3 scope ce fp) I10 hv hD room fun s11 I11 => fin I11 nx
  exact codeAny_compStart_set loop (T.self X.A 0 _ _ _ t4 loop)
theorem pe_sk {elt tg iter : Expr} {ifs : List Expr} {scope : Scope} {own : List (PySem.Str × Nat)} {pos : Pos} {wi : TI} {g : TG} {tt : TT} {te : TE} (hc : X.calm = true) (hN : X.N.Nodup) (hi : PI X tg iter wi) (ok : BlkOk X.N X.env.scope scope own)
    (hg : ∀ (s : Shared) (H : Hp) (C : Addr) (cl : List (PySem.Str × Addr)) (fp : List Addr), PG (X.blk s H scope (compEnvC scope cl C X.env) fp) tg g)
    (ht : ∀ (s : Shared) (H : Hp) (C : Addr) (cl : List (PySem.Str × Addr)) (fp : List Addr), PTs (X.blk s H scope (compEnvC scope cl C X.env) fp) ifs tt)
    (he : ∀ (s : Shared) (H : Hp) (C : Addr) (cl : List (PySem.Str × Addr)) (fp : List Addr), PE (X.blk s H scope (compEnvC scope cl C X.env) fp) elt te) (hs : ∀ x, foldedSetIterable iter X.env x = pure x) :
    PE X (.SetComp elt [⟨tg, iter, ifs, 0⟩] scope pos) (tSk X.w wi g tt te (own.map (·.2))) := by
  refine ⟨fun pins s σ H Q I h => ?_⟩
  rw [eval_SetComp]
  refine sk_core hc hN I hi ok hg ht he hs h fun D C z m H' I' q hn f => ⟨m, hn, fun h2 sb => ?_⟩
  obtain ⟨f0, f1, _, f3, f4, f5⟩ := f
  exact ⟨.ref D, H', I'.turned (t' := z.toks) (fun b o hb e => (sb.2 b hb).trans e) f0 f1 f3 f4 f5, rfl, q⟩
end
/-! ### the order -/
def nubK : List Key → List Key
  | [] => []
  | k :: ks => if hasK ks k then nubK ks else k :: nubK ks
theorem nub_mem : ∀ {ks : List Key} {k : Key}, k ∈ nubK ks ↔ k ∈ ks
  | [], k => Iff.rfl
  | j :: ks, k => by
    unfold nubK
    by_cases c : hasK ks j = true
    · rw [if_pos c, nub_mem, List.mem_cons]
      exact ⟨.inr, fun z => z.elim (fun e => e ▸ hasK_iff.mp c) id⟩
    · rw [if_neg c, List.mem_cons, List.mem_cons, nub_mem]
theorem nub_nodup : ∀ ks : List Key, (nubK ks).Nodup
  | [] => List.nodup_nil
  | j :: ks => by
    unfold nubK
    by_cases c : hasK ks j = true
    · rw [if_pos c]; exact nub_nodup ks
    · rw [if_neg c]
      exact List.nodup_cons.mpr ⟨fun z => c (hasK_iff.mpr (nub_mem.mp z)), nub_nodup ks⟩
abbrev leK : Key → Key → Bool := PySem.W.dataLe false kP
theorem leK_int (i j : Int) : leK (.inl i) (.inl j) = decide (i ≤ j) := by
  have := congrFun (congrFun (PySem.W.dataLe_int (fun x : Int => x)) i) j
  exact this
theorem leK_str (x y : Str) : leK (.inr x) (.inr y) = decide (x.cps.toList ≤ y.cps.toList) := by
  have := congrFun (congrFun (PySem.W.dataLe_str (fun x : Str => x)) x) y
  exact this
theorem leK_anti {ks : List Key} (h : OneKind ks) : ∀ a b, a ∈ ks → b ∈ ks → leK a b = true → leK b a = true → a = b := by
  intro a b ha hb h1 h2
  rcases h with h | h
  · obtain ⟨i, rfl⟩ := h a ha
    obtain ⟨j, rfl⟩ := h b hb
    rw [leK_int, decide_eq_true_eq] at h1 h2
    rw [show i = j by omega]
  · obtain ⟨x, rfl⟩ := h a ha
    obtain ⟨y, rfl⟩ := h b hb
    rw [leK_str, decide_eq_true_eq] at h1 h2
    have e : x.cps.toList = y.cps.toList := List.le_antisymm h1 h2
    congr 1
    cases x; cases y
    simpa using e
/-- the keys in order, each once -/
noncomputable def ordK (ks : List Key) : List Key := (nubK ks).mergeSort leK
theorem leK_tot : PySem.W.TotalLe leK := PySem.W.sortLe_total _ _ _
theorem ordK_uniq {ks l : List Key} (h : OneKind ks) (nd : l.Nodup) (hm : ∀ k, k ∈ l ↔ k ∈ ks) : l.mergeSort leK = ordK ks := by
  unfold ordK
  have tr : ∀ a b c : Key, leK a b = true → leK b c = true → leK a c = true := leK_tot.trans
  have tt : ∀ a b : Key, (leK a b || leK b a) = true := fun a b => by
    rw [Bool.or_eq_true]; exact leK_tot.total a b
  have p : l.Perm (nubK ks) := (List.perm_ext_iff_of_nodup nd (nub_nodup ks)).mpr fun k => by rw [hm k, nub_mem]
  refine List.Perm.eq_of_pairwise (le := fun a b => leK a b = true) (fun a b ha hb h1 h2 => ?_) (List.pairwise_mergeSort tr tt _) (List.pairwise_mergeSort tr tt _) (((List.mergeSort_perm _ _).trans p).trans (List.mergeSort_perm _ _).symm)
  exact leK_anti h a b ((hm a).mp (List.mem_mergeSort.mp ha)) (nub_mem.mp (List.mem_mergeSort.mp hb)) h1 h2
end KS
/-! RE13f: sorted(set(xs)), sorted({e for x in it}) as functions of trees. -/
namespace RE
open PySem PySem.Spec PyProof.Rows L2 KS

def isL : Key → Bool
  | .inl _ => true
  | .inr _ => false
def oneKd (ks : List Key) : Bool := ks.all isL || ks.all fun k => !isL k
theorem oneKd_ok {ks : List Key} (h : oneKd ks = true) : OneKind ks := by
  unfold oneKd at h
  rw [Bool.or_eq_true, List.all_eq_true, List.all_eq_true] at h
  rcases h with h | h
  · refine .inl fun k hk => ?_
    have := h k hk
    cases k with
    | inl i => exact ⟨i, rfl⟩
    | inr x => cases this
  · refine .inr fun k hk => ?_
    have := h k hk
    cases k with
    | inl i => cases this
    | inr x => exact ⟨x, rfl⟩
theorem OneKind.sub {ks l : List Key} (h : OneKind ks) (hm : ∀ k ∈ l, k ∈ ks) : OneKind l := h.imp (fun h k hk => h k (hm k hk)) fun h k hk => h k (hm k hk)
/-- sorted(set(xs)) -/
noncomputable def setSortL (xs : List D) : Option D := (keysA xs).bind fun ks => if oneKd ks && decide (ks.length ≤ 900) then some (.lst ((ordK ks).map keyD)) else none
noncomputable def setSortD : D → Option D
  | .lst xs => setSortL xs
  | _ => none
theorem setSortL_some {xs : List D} {d : D} (h : setSortL xs = some d) : ∃ ks, keysA xs = some ks ∧ oneKd ks = true ∧ ks.length ≤ 900 ∧ d = .lst ((ordK ks).map keyD) := by
  obtain ⟨ks, e1, e2⟩ := Option.bind_eq_some_iff.mp h
  split at e2
  · rename_i c
    rw [Bool.and_eq_true, decide_eq_true_eq] at c
    cases e2
    exact ⟨ks, e1, c.1, c.2, rfl⟩
  · cases e2
theorem keysA_cons {d : D} {ds : List D} {ks : List Key} (h : keysA (d :: ds) = some ks) : ∃ k l, keyA d = some k ∧ keysA ds = some l ∧ ks = k :: l := by
  simp only [keysA] at h
  obtain ⟨k, e1, h⟩ := Option.bind_eq_some_iff.mp h
  obtain ⟨l, e2, h⟩ := Option.bind_eq_some_iff.mp h
  cases h
  exact ⟨k, l, e1, e2, rfl⟩
theorem rep_key {P : Addr → Prop} {H : Hp} {d : D} {k : Key} {v : V} (h : keyA d = some k) (r : Rep P H d v) : v = kV k := by
  cases d <;> simp only [keyA] at h <;> cases h <;> simpa only [Rep, kV] using r
theorem RepL.ofKeys {P : Addr → Prop} {H : Hp} : ∀ ks : List Key, RepL P H (ks.map keyD) (ks.map kV)
  | [] => by simp only [List.map_nil, RepL]
  | k :: ks => by
    simp only [List.map_cons, RepL]
    refine ⟨_, _, rfl, ?_, RepL.ofKeys ks⟩
    cases k <;> simp only [keyD, Rep, kV]
section
variable {X : Cx} {ks : Ks} {F : Fn} {pos : Pos}
theorem evN_setSort {p p2 pos2 : Pos} {e : Expr} {f : SE} (hc : X.calm = true) (hu : X.A.units + 128 < cLine) (hg : Gl X "sorted") (hm : X.mg "sorted" = none) (hg2 : Gl X "set") (hm2 : X.mg "set" = none) (hs : noStar e = true) (h : EvP X ks F e f) :
    EvN X ks F (.Call (.Name "sorted" p) [.Call (.Name "set" p2) [e] [] pos2] [] pos) (cU setSortD f) := by
  obtain ⟨t, pt, q⟩ := h.ex
  refine ⟨_, pe_callB (id := "sorted") (cr_sortK hc hu) hg hm (by decide +kernel) (pa_cons (pe_callTy (T := "set") (cr_setK hc) hg2 hm2 (by decide +kernel) (pa_cons pt pa_nil (starEach_cons (noStar_ne hs))) (by decide) (by decide) (starEach_cons (noStar_ne hs)) (by rfl)) pa_nil rfl) (by decide) (by decide) rfl (by rfl), fun σ H P ρ Q d fr er ev k => ?_⟩
  obtain ⟨x, e1, ev1⟩ := Option.bind_eq_some_iff.mp ev
  cases x <;> simp only [setSortD] at ev1 <;> first | (cases ev1; done) | skip
  obtain ⟨kl, g1, g2, g3, rfl⟩ := setSortL_some ev1
  refine q σ H P ρ _ _ fr er e1 fun v H1 s1 r1 => ?_
  obtain ⟨a, vs, rfl, h1, h2⟩ := r1.lst
  have := keysA_some g1
  subst this
  have := h2.keys
  subst this
  refine ⟨a, kl, rfl, SqL.of h1, g3, fun b c hb hcl => ?_⟩
  have s2 : Same H1 (upd H1 b (KO X.w b (hasK kl) c)) := same_new hb
  refine ⟨b, hasK kl, c, rfl, upd_same, by omega, fun l hl => OneKind.sub (oneKd_ok g2) fun k hk => hasK_iff.mp (hl k hk), fun l p nd mem hp => ?_⟩
  rw [ordK_uniq (oneKd_ok g2) nd fun k => (mem k).trans hasK_iff]
  refine k _ _ ((s1.trans s2).trans (same_new hp)) ⟨?_, topNew_ref ((s1.trans s2).free hp)⟩
  simp only [Rep]
  exact ⟨p, _, rfl, ((fr.same s1).same s2) p hp, upd_same, RepL.ofKeys _⟩
/-- sorted({e for x in it if t}) -/
noncomputable def cSs (own : List Nat) (fi : SL) (asg : SG) (t : SB) (e : SE) : SE := fun F ρ => (fi F ρ).bind fun ds => (lcAll (lcOne asg t e F (wipeE ρ own)) ds).bind setSortL
theorem keysA_app : ∀ {a b : List D} {l : List Key}, keysA (a ++ b) = some l → ∃ x y, keysA a = some x ∧ keysA b = some y ∧ l = x ++ y
  | [], b, l, h => ⟨[], l, rfl, h, rfl⟩
  | d :: a, b, l, h => by
    obtain ⟨k, m, e1, e2, rfl⟩ := keysA_cons h
    obtain ⟨x, y, g1, g2, rfl⟩ := keysA_app e2
    exact ⟨k :: x, y, by simp only [keysA, e1, g1, Option.bind_some], g2, rfl⟩
theorem evN_scSort {ks' : Ks} {p pos2 : Pos} {elt tg iter : Expr} {ifs : List Expr} {scope : Scope} {own : List (Str × Nat)} {fi : SL} {is : List Nat} {asg : SG} {ft : SB} {fe : SE} (hc : X.calm = true) (hu : X.A.units + 128 < cLine) (hN : X.N.Nodup) (hgs : Gl X "sorted") (hms : X.mg "sorted" = none)
    (hi : EvI X ks F tg iter fi) (ok : BlkOk X.N X.env.scope scope own) (his : ∀ j ∈ is, j ∈ own.map (·.2)) (hk : ∀ i, i ∉ own.map (·.2) → kd ks' i = kd ks i)
    (hg : ∀ (s : Shared) (H : Hp) (C : Addr) (cl : List (Str × Addr)) (fp : List Addr), EvG (X.blk s H scope (compEnvC scope cl C X.env) fp) ks' tg is asg)
    (ht : ∀ (s : Shared) (H : Hp) (C : Addr) (cl : List (Str × Addr)) (fp : List Addr), EvTs (X.blk s H scope (compEnvC scope cl C X.env) fp) ks' F ifs ft)
    (he : ∀ (s : Shared) (H : Hp) (C : Addr) (cl : List (Str × Addr)) (fp : List Addr), EvE (X.blk s H scope (compEnvC scope cl C X.env) fp) ks' F elt fe)
    (hs : ∀ x, foldedSetIterable iter X.env x = pure x) : EvN X ks F (.Call (.Name "sorted" p) [.SetComp elt [⟨tg, iter, ifs, 0⟩] scope pos2] [] pos) (cSs (own.map (·.2)) fi asg ft fe) := by
  obtain ⟨wi, pi, q⟩ := hi.ex
  refine ⟨_, pe_callB (id := "sorted") (cr_sortK hc hu) hgs hms (by decide +kernel) (pa_cons (pe_sk (g := tG X.mg ks' is asg) (tt := tT X.mg ks' F ft) (te := tE X.mg ks' F fe) hc hN pi ok (fun s H C cl fp => (hg s H C cl fp).can) (fun s H C cl fp => (ht s H C cl fp).can) (fun s H C cl fp => (he s H C cl fp).can) hs) pa_nil rfl) (by decide) (by decide) rfl (by rfl), fun σ H P ρ Q d fr er ev k => ?_⟩
  obtain ⟨ds, e1, ev1⟩ := Option.bind_eq_some_iff.mp ev
  obtain ⟨outs, e2, ev2⟩ := Option.bind_eq_some_iff.mp ev1
  obtain ⟨kl, g1, g2, g3, rfl⟩ := setSortL_some ev2
  refine q σ H P ρ _ ds fr er e1 fun J H1 src s1 wk top Dl hD => ?_
  have fr1 := fr.same s1
  have er1 := er.same s1
  have wk := wk (fun b => P b ∧ b ≠ Dl) fun a ha pa => ⟨pa, fun e => ha (e ▸ hD)⟩
  have kept : ∀ H2, (∀ b o, H1 b = some o → H2 b = some o) → Kept (fun b => P b ∧ b ≠ Dl) src H1 H2 := fun H2 h b o e _ => h b o e
  let Pv : Nat → Hp → Prop := fun i H2 => ∃ pre l n, lcAll (lcOne asg ft fe F (wipeE ρ (own.map (·.2)))) (ds.take i) = some pre ∧ keysA pre = some l ∧ n ≤ l.length ∧ H2 Dl = some (KO X.w Dl (hasK l) n) ∧ ∀ b o, H1 b = some o → H2 b = some o
  refine it_gen (n := ds.length) (Pv := Pv) ?_ ?_ ?_ ?_
  · refine ⟨[], [], 0, by simp [lcAll], rfl, Nat.le_refl _, upd_same, fun b o e => ?_⟩
    rw [upd_ne (ne_of_none e hD)]; exact e
  · rintro i H2 hi ⟨pre, l, n, _, _, _, _, h⟩
    exact wk.goes H2 i (kept H2 h) hi
  · rintro H2 ⟨pre, l, n, hpre, hl, hn, hDl, hkp⟩
    refine ⟨wk.stops H2 (kept H2 hkp), ?_⟩
    rw [List.take_length, e2] at hpre
    cases hpre
    rw [g1] at hl
    cases hl
    refine ⟨Dl, hasK kl, n, rfl, hDl, by omega, fun l hl => OneKind.sub (oneKd_ok g2) fun k hk => hasK_iff.mp (hl k hk), fun l p nd mem hp => ?_⟩
    rw [ordK_uniq (oneKd_ok g2) nd fun k => (mem k).trans hasK_iff]
    have s2 : Same H1 H2 := hkp
    refine k _ _ ((s1.trans s2).trans (same_new hp)) ⟨?_, topNew_ref ((s1.trans s2).free hp)⟩
    simp only [Rep]
    exact ⟨p, _, rfl, (fr1.same s2) p hp, upd_same, RepL.ofKeys _⟩
  · rintro i x H2 H3 hi ⟨pre, l, n, hpre, hl, hn, hDl, hkp⟩ yl
    obtain ⟨s3, d, hd, rd⟩ := wk.yields H2 i x H3 (kept H2 hkp) hi yl
    have e3 : ds.take (i + 1) = ds.take i ++ [d] := by rw [List.take_add_one, hd]; rfl
    obtain ⟨pre', post, e4, e5⟩ := lcAll_take e2 (i + 1)
    have e4' := e4
    rw [e3, lcAll_snoc, hpre] at e4
    simp only [Option.bind_some] at e4
    obtain ⟨ys, e6, rfl⟩ := Option.map_eq_some_iff.mp e4
    obtain ⟨ρ', e7, e8⟩ := Option.bind_eq_some_iff.mp e6
    obtain ⟨b, e9, e10⟩ := Option.bind_eq_some_iff.mp e8
    have hD3 : H3 Dl = some (KO X.w Dl (hasK l) n) := s3 _ _ hDl
    have all3 : ∀ b o, H1 b = some o → H3 b = some o := fun b o e => s3 b o (hkp b o e)
    have fr3 : Fre (fun b => P b ∧ b ≠ Dl) H3 := fre_minus (fr1.same all3) (by rw [hD3]; simp)
    have er3 : ER X.mg (fun b => P b ∧ b ≠ Dl) ks' H3 (L2.wipe σ (own.map (·.2))) (wipeE ρ (own.map (·.2))) := ER.wipe (er1.mono all3 fun a ha pa => ⟨pa, fun e => ha (e ▸ hD)⟩) hk
    refine ⟨_, _, _, d, rd, er3, e7, fun σ' er' hl' hj => ⟨wipe_eq hl' hj his, ?_⟩⟩
    refine ⟨_, ρ', b, fr3, er', e9, fun H4 s4 => ?_⟩
    have all4 : ∀ b o, H1 b = some o → H4 b = some o := fun b o e => s4 b o (all3 b o e)
    cases b with
    | false =>
      rw [if_neg Bool.false_ne_true] at e10
      refine iteF ?_
      cases e10
      exact ⟨pre ++ [], l, n, e4', by rw [List.append_nil]; exact hl, hn, s4 _ _ hD3, all4⟩
    | true =>
      rw [if_pos rfl] at e10
      refine iteT ?_
      obtain ⟨y, e11, rfl⟩ := Option.map_eq_some_iff.mp e10
      refine ⟨_, ρ', y, fr3.same s4, er'.same s4, e11, fun v H5 s5 r5 => ?_⟩
      rw [e5] at g1
      obtain ⟨l1, l2, m1, _, e12⟩ := keysA_app g1
      obtain ⟨l3, l4, m3, m4, e13⟩ := keysA_app m1
      rw [hl] at m3
      cases m3
      obtain ⟨kk, l5, m5, m6, rfl⟩ := keysA_cons m4
      simp only [keysA] at m6
      cases m6
      have hD5 : H5 Dl = some (KO X.w Dl (hasK l) n) := s5 _ _ (s4 _ _ hD3)
      have ev := rep_key m5 r5
      subst ev
      have len : l.length + 1 ≤ kl.length := by rw [e12, e13]; simp only [List.length_append, List.length_cons, List.length_nil]; omega
      refine ⟨kk, hasK l, n, rfl, hD5, by unfold scanBound; omega, pre ++ [y], l1, (if hasK l kk = true then n else n + 1), e4', m1, ?_, ?_, fun b o e => ?_⟩
      · rw [e13, List.length_append, List.length_singleton]; split <;> omega
      · rw [upd_same, e13]
        congr 2
        funext j
        exact (hasK_app l kk j).symm
      · rw [upd_ne (ne_of_none e hD)]
        exact s5 b o (all4 b o e)
end
end RE
/-! RE13g: the least of a list of alike data, as it stands. -/
namespace RE
open PySem PySem.Spec PyProof.Rows L2

mutual
theorem toP_inj : ∀ (n m : Nat) (d e : D), pd n d = true → pd m e = true → toP d = toP e → d = e
  | n, m, .non, e, h1, h2, h => by cases e <;> simp [toP] at h <;> first | rfl | (cases m <;> simp [pd] at h2)
  | n, m, .bl b, e, h1, h2, h => by cases e <;> simp [toP] at h; rw [h]
  | n, m, .int b, e, h1, h2, h => by cases e <;> simp [toP] at h; rw [h]
  | n, m, .str b, e, h1, h2, h => by cases e <;> simp [toP] at h; rw [h]
  | 0, m, .tup xs, e, h1, h2, h => by simp [pd] at h1
  | 0, m, .lst xs, e, h1, h2, h => by simp [pd] at h1
  | n + 1, m, .tup xs, e, h1, h2, h => by
    cases e <;> simp [toP] at h
    rename_i ys
    cases m with
    | zero => simp [pd] at h2
    | succ m =>
      simp only [pd] at h1 h2
      rw [toPs_inj n m xs ys h1 h2 h]
  | n + 1, m, .lst xs, e, h1, h2, h => by
    cases e <;> simp [toP] at h
    rename_i ys
    cases m with
    | zero => simp [pd] at h2
    | succ m =>
      simp only [pd] at h1 h2
      rw [toPs_inj n m xs ys h1 h2 h]
  | n, m, .dic t x, e, h1, h2, h => by cases n <;> simp [pd] at h1
  | n, m, .scr x, e, h1, h2, h => by cases n <;> simp [pd] at h1
  | n, m, .fn x, e, h1, h2, h => by cases n <;> simp [pd] at h1
theorem toPs_inj : ∀ (n m : Nat) (d e : List D), d.all (pd n) = true → e.all (pd m) = true → toPs d = toPs e → d = e
  | n, m, [], [], _, _, _ => rfl
  | n, m, [], y :: ys, _, _, h => by simp [toPs] at h
  | n, m, x :: xs, [], _, _, h => by simp [toPs] at h
  | n, m, x :: xs, y :: ys, h1, h2, h => by
    simp only [toPs, List.cons.injEq] at h
    rw [List.all_cons, Bool.and_eq_true] at h1 h2
    rw [toP_inj n m x y h1.1 h2.1 h.1, toPs_inj n m xs ys h1.2 h2.2 h.2]
end
/-- the first of the least -/
def dMinL (x : D) (xs : List D) : D := xs.foldl (fun a y => if PySem.W.dataLt (toP y) (toP a) then y else a) x
theorem dMin_toP : ∀ (xs : List D) (x : D), toP (dMinL x xs) = PySem.W.minD (toP x) (xs.map toP)
  | [], x => rfl
  | y :: xs, x => by
    unfold dMinL PySem.W.minD
    rw [List.foldl_cons, List.map_cons, List.foldl_cons]
    have := dMin_toP xs (if PySem.W.dataLt (toP y) (toP x) then y else x)
    unfold dMinL PySem.W.minD at this
    rw [this]
    congr 1
    split <;> rfl
theorem dMin_mem : ∀ (xs : List D) (x : D), dMinL x xs ∈ x :: xs
  | [], x => List.mem_cons_self
  | y :: xs, x => by
    unfold dMinL
    rw [List.foldl_cons]
    have := dMin_mem xs (if PySem.W.dataLt (toP y) (toP x) then y else x)
    unfold dMinL at this
    rcases List.mem_cons.mp this with h | h
    · rw [h]
      split
      · simp
      · simp
    · exact List.mem_cons_of_mem _ (List.mem_cons_of_mem _ h)
def minDD : D → Option D
  | .lst (x :: xs) => if sortOk (x :: xs) then some (dMinL x xs) else none
  | _ => none
def rMinD (K : PySem.W.Frag) : List V → Hp → VK → Prop := fun vs H Q => ∃ (a : Addr) (p : D × V) (ps : List (D × V)), vs = [V.ref a] ∧ SqL K H a ((p :: ps).map (·.2)) ∧ (∀ q ∈ p :: ps, Dp K H q.2 (toP q.1)) ∧ PySem.W.AlikeAll ((p :: ps).map fun q => toP q.1) ∧ PyData.depthAll ((p :: ps).map fun q => toP q.1) ≤ 60 ∧
  ∀ q ∈ p :: ps, toP q.1 = PySem.W.minD (toP p.1) (ps.map fun q => toP q.1) → Q q.2 H
theorem vals_at : ∀ {vs : List V} {us : List Value}, Vals vs us → ∀ (i : Nat) (u : Value), us[i]? = some u → ∃ v, vs[i]? = some v ∧ RelV v u
  | _, _, .nil, i, u, h => by simp at h
  | _, _, .cons r t, 0, u, h => by cases h; exact ⟨_, rfl, r⟩
  | _, _, .cons r t, i + 1, u, h => by
    obtain ⟨v, e, r'⟩ := vals_at t i u (by simpa using h)
    exact ⟨v, by simpa using e, r'⟩
theorem dpAll_of {K : PySem.W.Frag} {H : Hp} : ∀ {ps : List (D × V)}, (∀ q ∈ ps, Dp K H q.2 (toP q.1)) → DpAll K H (ps.map (·.2)) (ps.map fun q => toP q.1)
  | [], _ => .nil
  | p :: ps, h => .cons (h p List.mem_cons_self) (dpAll_of fun q hq => h q (List.mem_cons_of_mem _ hq))
theorem cr_minD {X : Cx} (hc : X.calm = true) (hu : X.A.units + 128 < cLine) : CallR X (.builtin "min") (rMinD X.K) := by
  intro pins s σ H vs us Q I r h
  obtain ⟨a, p, ps, rfl, hs, hd, hal, hdep, q⟩ := h
  obtain ⟨its, rv, hl, _⟩ := I.list hs
  rw [Vals.ref1 r]
  obtain ⟨as, hr⟩ := Dp.readsAll I _ _ _ (dpAll_of hd) rv
  rw [List.map_cons] at hr hal hdep
  refine PySem.W.min_list_data (I.ok.hd hc) hl.isList (by simpa using hr) hal (by omega) fun i v h' tk bs hv hrd hk => ?_
  obtain ⟨w, ew, rw'⟩ := vals_at rv i v (by simpa using hv)
  rw [List.getElem?_map] at ew
  cases hq : (p :: ps)[i]? with
  | none => rw [hq] at ew; cases ew
  | some z =>
    rw [hq] at ew
    cases ew
    have hz := List.mem_of_getElem? hq
    obtain ⟨cs, r2⟩ := Dp.reads I _ _ _ (hd z hz) rw'
    exact ⟨z.2, H, I.kept hk, rw', q z hz (PySem.Reads.unique (Reads.keeps hk r2) _ _ hrd).1⟩
section
variable {X : Cx} {ks : Ks} {F : Fn} {pos : Pos}
theorem depthAll_le {n : Nat} : ∀ {xs : List PyData}, (∀ x ∈ xs, x.depth ≤ n) → PyData.depthAll xs ≤ n
  | [], _ => by simp [PyData.depthAll]
  | x :: xs, h => by
    simp only [PyData.depthAll]
    exact Nat.max_le.mpr ⟨h x List.mem_cons_self, depthAll_le fun y hy => h y (List.mem_cons_of_mem _ hy)⟩
theorem evE_min {p : Pos} {e : Expr} {f : SE} (hc : X.calm = true) (hu : X.A.units + 128 < cLine) (hg : Gl X "min") (hm : X.mg "min" = none) (hs : noStar e = true) (h : EvP X ks F e f) :
    EvE X ks F (.Call (.Name "min" p) [e] [] pos) (cU minDD f) := by
  obtain ⟨t, pt, q⟩ := h.ex
  refine ⟨_, pe_callB (id := "min") (cr_minD hc hu) hg hm (by decide +kernel) (pa_cons pt pa_nil (starEach_cons (noStar_ne hs))) (by decide) (by decide) (starEach_cons (noStar_ne hs)) (by rfl), fun σ H P ρ Q d fr er ev k => ?_⟩
  obtain ⟨x, e1, ev⟩ := Option.bind_eq_some_iff.mp ev
  refine q σ H P ρ _ x fr er e1 fun v H1 s1 r1 => ?_
  cases x <;> simp only [minDD] at ev <;> first | (cases ev; done) | skip
  rename_i xs
  cases xs with
  | nil => cases ev
  | cons x xs =>
    simp only at ev
    split at ev
    · rename_i c
      cases ev
      unfold sortOk at c
      simp only [Bool.and_eq_true, Bool.or_eq_true] at c
      obtain ⟨⟨c1, c2⟩, c3, c4⟩ := c
      obtain ⟨a, vs, rfl, h1, h2⟩ := r1.lst
      obtain ⟨ps, e1', rfl, h3⟩ := h2.pairs
      cases ps with
      | nil => cases e1'
      | cons p' ps =>
        rw [List.map_cons, List.cons.injEq] at e1'
        obtain ⟨rfl, rfl⟩ := e1'
        have hp : ∀ q ∈ p' :: ps, q.1 ∈ p'.1 :: ps.map (·.1) := fun q hq => by
          have := List.mem_map.mpr ⟨q, hq, (rfl : q.1 = q.1)⟩
          rwa [List.map_cons] at this
        rw [List.all_eq_true] at c1 c3
        refine ⟨a, p', ps, rfl, SqL.of h1, fun q hq => (h3 q hq).toB.dp (mg := X.mg) (c1 _ (hp q hq)), ⟨?_, ?_⟩, depthAll_le ?_, fun q hq eq => ?_⟩
        · intro d hd d' hd'
          obtain ⟨p1, hp1, rfl⟩ := List.mem_map.mp hd
          obtain ⟨p2, hp2, rfl⟩ := List.mem_map.mp hd'
          have := c3 _ (hp p1 hp1)
          rw [List.all_eq_true] at this
          exact this _ (hp p2 hp2)
        · intro d hd
          obtain ⟨p1, hp1, rfl⟩ := List.mem_map.mp hd
          have h5 := c1 _ (hp p1 hp1)
          have h6 : isTup1 p1.1 = true ∨ notTN p1.1 = true := by
            rcases c4 with c4 | c4
            · rw [List.all_eq_true] at c4; exact .inl (c4 _ (hp p1 hp1))
            · rw [List.all_eq_true] at c4; exact .inr (c4 _ (hp p1 hp1))
          generalize p1.1 = z at h5 h6
          cases z with
          | non => rcases h6 with h6 | h6 <;> cases h6
          | dic _ _ => simp [pd] at h5
          | scr _ => simp [pd] at h5
          | fn _ => simp [pd] at h5
          | tup l => simp [toP]
          | bl b => simp [toP]
          | int b => simp [toP]
          | str b => simp [toP]
          | lst b => simp [toP]
        · intro d hd
          obtain ⟨p1, hp1, rfl⟩ := List.mem_map.mp hd
          exact (pd_ok _ _ (c1 _ (hp p1 hp1))).2
        · have e3 : q.1 = dMinL p'.1 (ps.map (·.1)) := by
            refine toP_inj 60 60 _ _ (c1 _ (hp q hq)) (c1 _ (dMin_mem _ _)) ?_
            rw [dMin_toP, List.map_map]
            exact eq
          refine k _ H1 s1 ?_
          rw [← e3]
          exact h3 q hq
    · cases ev
end
end RE
/-! RE13h: dicts walked by their keys: locked meanwhile. -/
namespace RE
open PySem PySem.Spec PyProof.Rows L2

def isDO : HO → Prop
  | .dK _ => True
  | .dT _ => True
  | _ => False
theorem isDO.mut {u : HO} (h : isDO u) : L2.Mut (some u) := by cases u <;> first | exact h.elim | trivial
/-- what the locking or unlocking of a dict leaves -/
structure Lck (H H' : Hp) : Prop where
  tup : ∀ b vs, H b = some (.tup vs) → H' b = some (.tup vs)
  lst : ∀ b vs, H b = some (.lst vs) → H' b = some (.lst vs)
  scr : ∀ b o ns, H b = some (.frz o (.lst ns)) → H' b = some (.frz o (.lst ns))
  dk : ∀ b ks, Rd H b (.dK ks) → Rd H' b (.dK ks)
  dt : ∀ b ks, Rd H b (.dT ks) → Rd H' b (.dT ks)
  free : ∀ b, H' b = none → H b = none
theorem lck_on {H : Hp} {a : Addr} {u : HO} (h : H a = some u) (hu : isDO u) (od : Obj) : Lck H (upd H a (.frz od u)) where
  tup := fun b vs e => by
    rw [upd_ne (fun z => by rw [z, h] at e; cases e; exact hu)]; exact e
  lst := fun b vs e => by
    rw [upd_ne (fun z => by rw [z, h] at e; cases e; exact hu)]; exact e
  scr := fun b o ns e => by
    rw [upd_ne (fun z => by rw [z, h] at e; cases e; exact hu)]; exact e
  dk := fun b ks r => by
    by_cases c : b = a
    · subst c
      rcases r with r | ⟨o, r⟩ <;> rw [h] at r <;> cases r
      · exact .inr ⟨od, upd_same⟩
      · exact hu.elim
    · rcases r with r | ⟨o, r⟩
      · exact .inl (by rw [L2.upd_ne c]; exact r)
      · exact .inr ⟨o, by rw [L2.upd_ne c]; exact r⟩
  dt := fun b ks r => by
    by_cases c : b = a
    · subst c
      rcases r with r | ⟨o, r⟩ <;> rw [h] at r <;> cases r
      · exact .inr ⟨od, upd_same⟩
      · exact hu.elim
    · rcases r with r | ⟨o, r⟩
      · exact .inl (by rw [L2.upd_ne c]; exact r)
      · exact .inr ⟨o, by rw [L2.upd_ne c]; exact r⟩
  free := fun b e => by
    by_cases c : b = a
    · subst c; rw [upd_same] at e; cases e
    · rwa [L2.upd_ne c] at e
theorem lck_off {H : Hp} {a : Addr} {u : HO} {od : Obj} (h : H a = some (.frz od u)) (hu : isDO u) : Lck H (upd H a u) where
  tup := fun b vs e => by
    rw [upd_ne (fun z => by rw [z, h] at e; cases e)]; exact e
  lst := fun b vs e => by
    rw [upd_ne (fun z => by rw [z, h] at e; cases e)]; exact e
  scr := fun b o ns e => by
    rw [upd_ne (fun z => by rw [z, h] at e; cases e; exact hu)]; exact e
  dk := fun b ks r => by
    by_cases c : b = a
    · subst c
      rcases r with r | ⟨o, r⟩ <;> rw [h] at r <;> cases r
      exact .inl upd_same
    · rcases r with r | ⟨o, r⟩
      · exact .inl (by rw [L2.upd_ne c]; exact r)
      · exact .inr ⟨o, by rw [L2.upd_ne c]; exact r⟩
  dt := fun b ks r => by
    by_cases c : b = a
    · subst c
      rcases r with r | ⟨o, r⟩ <;> rw [h] at r <;> cases r
      exact .inl upd_same
    · rcases r with r | ⟨o, r⟩
      · exact .inl (by rw [L2.upd_ne c]; exact r)
      · exact .inr ⟨o, by rw [L2.upd_ne c]; exact r⟩
  free := fun b e => by
    by_cases c : b = a
    · subst c; rw [upd_same] at e; cases e
    · rwa [L2.upd_ne c] at e
theorem HD.lck {H H' : Hp} (l : Lck H H') {t : Bool} {a : Addr} {ps : List (D × V)} (h : HD t H a ps) : HD t H' a ps := by
  cases t <;> obtain ⟨ks, r, e⟩ := h
  · exact ⟨ks, l.dk _ _ r, e⟩
  · exact ⟨ks, l.dt _ _ r, e⟩
mutual
theorem Rep.lck {P : Addr → Prop} {H H' : Hp} (l : Lck H H') : ∀ (d : D) (v : V), Rep P H d v → Rep P H' d v
  | .non, v, h => by unfold Rep at h ⊢; exact h
  | .bl b, v, h => by unfold Rep at h ⊢; exact h
  | .int i, v, h => by unfold Rep at h ⊢; exact h
  | .str x, v, h => by unfold Rep at h ⊢; exact h
  | .tup ds, v, h => by
    unfold Rep at h ⊢
    obtain ⟨a, vs, e, h1, h2⟩ := h
    exact ⟨a, vs, e, l.tup _ _ h1, RepL.lck l ds vs h2⟩
  | .lst ds, v, h => by
    unfold Rep at h ⊢
    obtain ⟨a, vs, e, h0, h1, h2⟩ := h
    exact ⟨a, vs, e, h0, l.lst _ _ h1, RepL.lck l ds vs h2⟩
  | .dic t kvs, v, h => by
    unfold Rep at h ⊢
    obtain ⟨a, ps, e, h0, h1, h2⟩ := h
    exact ⟨a, ps, e, h0, h1.lck l, RepKV.lck l kvs ps h2⟩
  | .scr ns, v, h => by
    unfold Rep at h ⊢
    obtain ⟨a, o, e, h1⟩ := h
    exact ⟨a, o, e, l.scr _ _ _ h1⟩
  | .fn f, v, h => by unfold Rep at h; exact h.elim
theorem RepL.lck {P : Addr → Prop} {H H' : Hp} (l : Lck H H') : ∀ (ds : List D) (vs : List V), RepL P H ds vs → RepL P H' ds vs
  | [], vs, h => by unfold RepL at h ⊢; exact h
  | d :: ds, vs, h => by
    unfold RepL at h ⊢
    obtain ⟨v, r, e, h1, h2⟩ := h
    exact ⟨v, r, e, Rep.lck l d v h1, RepL.lck l ds r h2⟩
theorem RepKV.lck {P : Addr → Prop} {H H' : Hp} (l : Lck H H') : ∀ (kvs : List (D × D)) (ps : List (D × V)), RepKV P H kvs ps → RepKV P H' kvs ps
  | [], ps, h => by unfold RepKV at h ⊢; exact h
  | (k, d) :: kvs, ps, h => by
    unfold RepKV at h ⊢
    obtain ⟨v, r, e, h1, h2⟩ := h
    exact ⟨v, r, e, Rep.lck l d v h1, RepKV.lck l kvs r h2⟩
end
theorem RepB.lck {mg : Str → Option Value} {P : Addr → Prop} {H H' : Hp} {d : D} {v : V} (l : Lck H H') (h : RepB mg P H d v) : RepB mg P H' d v := by
  cases d <;> simp only [RepB] at h ⊢ <;> first | exact h | exact Rep.lck l _ _ h | skip
  · obtain ⟨a, vs, e, h1, h2⟩ := h; exact ⟨a, vs, e, l.lst _ _ h1, RepL.lck l _ _ h2⟩
  · obtain ⟨a, vs, e, h1, h2⟩ := h; exact ⟨a, vs, e, h1.lck l, RepKV.lck l _ _ h2⟩
theorem RepK.lck {mg : Str → Option Value} {P : Addr → Prop} {H H' : Hp} {k : Kind} {d : D} {v : V} (l : Lck H H') (h : RepK mg P H k d v) : RepK mg P H' k d v := by
  cases k with
  | F => exact Rep.lck l _ _ h
  | M => exact RepB.lck l h
  | L => exact RepB.lck l h
  | B => exact RepB.lck l h
theorem ER.lck {mg : Str → Option Value} {P : Addr → Prop} {ks : Ks} {H H' : Hp} {σ : L2.St} {ρ : RE.Env} (l : Lck H H') (h : ER mg P ks H σ ρ) : ER mg P ks H' σ ρ := ⟨h.1, fun i d e =>
  let ⟨v, e1, r⟩ := h.2 i d e
  ⟨v, e1, r.lck l⟩⟩
theorem Fre.lck {P : Addr → Prop} {H H' : Hp} (l : Lck H H') (f : Fre P H) : Fre P H' := fun a h => f a (l.free a h)
/-- the dict in slot i is locked -/
def LockAt (i : Nat) (σ : L2.St) (H : Hp) : Prop := ∃ a o u, σ[i]? = some (some (.ref a)) ∧ H a = some (.frz o u)
structure EvIx (L : L2.St → Hp → Prop) (X : Cx) (ks : Ks) (F : Fn) (tg iter : Expr) (f : SL) : Prop where
  ex : ∃ wi : TI, PI X tg iter wi ∧ ∀ σ H, L σ H → ∀ (P : Addr → Prop) (ρ : RE.Env) (R : It → Hp → Prop) (ds : List D), Fre P H → ER X.mg P ks H σ ρ → f F ρ = some ds →
    (∀ J H1 src, Same H H1 → (∀ P', (∀ a, H1 a ≠ none → P a → P' a) → WalkD P' src J ds H1) → (∀ a ∈ src, Top ks σ ρ P a) → R J H1) → wi σ H R
/-- the keys of the dict in slot i -/
def cKeys (i : Nat) : SL := fun _ ρ => match ρ[i]? with
  | some (some (.dic _ kvs)) => some (kvs.map (·.1))
  | _ => none
theorem cKeys_some {i : Nat} {F : Fn} {ρ : RE.Env} {ds : List D} (h : cKeys i F ρ = some ds) : ∃ t kvs, ρ[i]? = some (some (.dic t kvs)) ∧ ds = kvs.map (·.1) := by
  unfold cKeys at h
  split at h
  · rename_i t kvs e
    cases h
    exact ⟨t, kvs, e, rfl⟩
  · cases h
theorem RepKV.keys {P : Addr → Prop} {H : Hp} : ∀ {kvs : List (D × D)} {ps : List (D × V)}, RepKV P H kvs ps → kvs.map (·.1) = ps.map (·.1)
  | [], ps, h => by unfold RepKV at h; rw [h]; rfl
  | (k, d) :: kvs, ps, h => by
    unfold RepKV at h
    obtain ⟨v, r, e, h1, h2⟩ := h
    rw [e, List.map_cons, List.map_cons, RepKV.keys h2]
theorem rep_keyV {P : Addr → Prop} {H : Hp} (k : Key) : Rep P H (keyD k) (kV k) := by cases k <;> simp only [keyD, Rep, kV]
theorem repL_keys {P : Addr → Prop} {H : Hp} : ∀ ks : List Key, RepL P H (ks.map keyD) (ks.map kV)
  | [] => by simp only [List.map_nil, RepL]
  | k :: ks => by
    simp only [List.map_cons, RepL]
    exact ⟨_, _, rfl, rep_keyV k, repL_keys ks⟩
theorem evIx_keys {X : Cx} {ks : Ks} {F : Fn} {tg : Expr} {pos : Pos} {i : Nat} {x : Str} (hN : X.N[i]? = some x) (hv : Vis X.env.scope x) (hd : (x == ("__debug__" : Str)) = false) (hcd : (x == ("__classdict__" : Str)) = false) :
    EvIx (LockAt i) X ks F tg (.Name x pos) (cKeys i) := by
  refine ⟨_, pi_keys (pe_var hN hv hd hcd), fun σ H hL P ρ R ds fr er ev k => ?_⟩
  obtain ⟨t, kvs, e1, rfl⟩ := cKeys_some ev
  obtain ⟨v, e2, r⟩ := er.2 i _ e1
  obtain ⟨a, o, u, e3, ha⟩ := hL
  rw [e2] at e3; cases e3
  refine ⟨.ref a, e2, a, o, rfl, ?_⟩
  obtain ⟨b, ps, eb, hh, hkv⟩ := r.toB.dic
  cases eb
  have hkeys := hkv.keys
  cases t with
  | false =>
    obtain ⟨kk, rd, rfl⟩ := hh
    rcases rd with rd | ⟨o', rd⟩
    · rw [ha] at rd; cases rd
    · rw [ha] at rd; cases rd
      refine .inl ⟨kk, ha, k _ H [] (Same.refl H) (fun P2 hp2 => ⟨by simp, fun H2 j kp hj => ?_, fun H2 kp => ?_, fun H2 j x H3 kp hj y => ?_⟩) (by simp)⟩
      · refine ⟨kp _ _ ha (.inr (.inl fun z => z)), ?_⟩
        rw [hkeys, List.length_map, List.length_map] at hj; exact hj
      · refine ⟨kp _ _ ha (.inr (.inl fun z => z)), ?_⟩
        rw [hkeys, List.length_map, List.length_map]; exact Nat.le_refl _
      · obtain ⟨rfl, q, w, e4, rfl⟩ := y
        refine ⟨Same.refl _, keyD q, ?_, rep_keyV q⟩
        rw [hkeys, List.map_map, List.getElem?_map, e4]
        rfl
  | true =>
    obtain ⟨kk, rd, rfl⟩ := hh
    rcases rd with rd | ⟨o', rd⟩
    · rw [ha] at rd; cases rd
    · rw [ha] at rd; cases rd
      refine .inr ⟨kk, ha, k _ H [] (Same.refl H) (fun P2 hp2 => ⟨by simp, fun H2 j kp hj => ?_, fun H2 kp => ?_, fun H2 j x H3 kp hj y => ?_⟩) (by simp)⟩
      · refine ⟨kp _ _ ha (.inr (.inl fun z => z)), ?_⟩
        rw [hkeys, List.length_map, List.length_map] at hj; exact hj
      · refine ⟨kp _ _ ha (.inr (.inl fun z => z)), ?_⟩
        rw [hkeys, List.length_map, List.length_map]; exact Nat.le_refl _
      · obtain ⟨rfl, q, w, p, e4, rfl, e5⟩ := y
        refine ⟨Same.refl _, .tup (q.map keyD), ?_, ?_⟩
        · rw [hkeys, List.map_map, List.getElem?_map, e4]
          rfl
        · simp only [Rep]
          exact ⟨p, _, rfl, e5, repL_keys q⟩
theorem evx_lc {L : L2.St → Hp → Prop} {X : Cx} {ks ks' : Ks} {F : Fn} {elt tg iter : Expr} {ifs : List Expr} {scope : Scope} {own : List (Str × Nat)} {pos : Pos} {fi : SL} {is : List Nat} {asg : SG} {ft : SB} {fe : SE} (hc : X.calm = true) (hN : X.N.Nodup)
    (hi : EvIx L X ks F tg iter fi) (ok : BlkOk X.N X.env.scope scope own) (his : ∀ j ∈ is, j ∈ own.map (·.2)) (hk : ∀ i, i ∉ own.map (·.2) → kd ks' i = kd ks i)
    (hg : ∀ (s : Shared) (H : Hp) (C : Addr) (cl : List (Str × Addr)) (fp : List Addr), EvG (X.blk s H scope (compEnvC scope cl C X.env) fp) ks' tg is asg)
    (ht : ∀ (s : Shared) (H : Hp) (C : Addr) (cl : List (Str × Addr)) (fp : List Addr), EvTs (X.blk s H scope (compEnvC scope cl C X.env) fp) ks' F ifs ft)
    (he : ∀ (s : Shared) (H : Hp) (C : Addr) (cl : List (Str × Addr)) (fp : List Addr), EvE (X.blk s H scope (compEnvC scope cl C X.env) fp) ks' F elt fe)
    (hs : ∀ x, foldedSetIterable iter X.env x = pure x) : ∃ t : TE, PE X (.ListComp elt [⟨tg, iter, ifs, 0⟩] scope pos) t ∧ ∀ σ H, L σ H → Cn X.mg H ks F (cLc (own.map (·.2)) fi asg ft fe) σ (fun P d v H' => Rep P H' d v ∧ TopNew H d v) t := by
  obtain ⟨wi, pi, q⟩ := hi.ex
  refine ⟨_, pe_lc (g := tG X.mg ks' is asg) (tt := tT X.mg ks' F ft) (te := tE X.mg ks' F fe) hc hN pi ok (fun s H C cl fp => (hg s H C cl fp).can) (fun s H C cl fp => (ht s H C cl fp).can) (fun s H C cl fp => (he s H C cl fp).can) hs, fun σ H hL P ρ Q d fr er ev k => ?_⟩
  obtain ⟨ds, e1, ev1⟩ := Option.bind_eq_some_iff.mp ev
  obtain ⟨outs, e2, ev2⟩ := Option.bind_eq_some_iff.mp ev1
  obtain ⟨rfl, hlen⟩ := mkLst_some ev2
  refine q σ H hL P ρ _ ds fr er e1 fun J H1 src s1 wk top Dl hD => ?_
  have fr1 := fr.same s1
  have er1 := er.same s1
  have wk := wk (fun b => P b ∧ b ≠ Dl) fun a ha pa => ⟨pa, fun e => ha (e ▸ hD)⟩
  have kept : ∀ H2, (∀ b o, H1 b = some o → H2 b = some o) → Kept (fun b => P b ∧ b ≠ Dl) src H1 H2 := fun H2 h b o e _ => h b o e
  refine lc_it (n := ds.length) (G := fun H2 => Kept (fun b => P b ∧ b ≠ Dl) src H1 H2) (Y := fun i H2 x H3 => Same H2 H3 ∧ ∃ d, ds[i]? = some d ∧ Rep (fun b => P b ∧ b ≠ Dl) H3 d x) ⟨fun i H2 hi g => wk.goes H2 i g hi, fun H2 g => wk.stops H2 g, fun i H2 x H3 hi g y => wk.yields H2 i x H3 g hi y⟩
    (fun i H2 => ∃ vs pre, lcAll (lcOne asg ft fe F (wipeE ρ (own.map (·.2)))) (ds.take i) = some pre ∧ H2 Dl = some (.lst vs) ∧ RepL (fun b => P b ∧ b ≠ Dl) H2 pre vs ∧ ∀ b o, H1 b = some o → H2 b = some o) ?_ ?_ ?_ ?_
  · refine ⟨[], [], by simp [lcAll], upd_same, by simp [RepL], fun b o e => ?_⟩
    rw [upd_ne (ne_of_none e hD)]; exact e
  · rintro i H2 _ ⟨vs, pre, _, _, _, h⟩
    exact kept H2 h
  · rintro i x H2 H3 hi ⟨vs, pre, hpre, hDl, hr, hkp⟩ ⟨s3, d, hd, rd⟩
    have e3 : ds.take (i + 1) = ds.take i ++ [d] := by rw [List.take_add_one, hd]; rfl
    obtain ⟨pre', post, e4, e5⟩ := lcAll_take e2 (i + 1)
    have e4' := e4
    rw [e3, lcAll_snoc, hpre] at e4
    simp only [Option.bind_some] at e4
    obtain ⟨ys, e6, rfl⟩ := Option.map_eq_some_iff.mp e4
    obtain ⟨ρ', e7, e8⟩ := Option.bind_eq_some_iff.mp e6
    obtain ⟨b, e9, e10⟩ := Option.bind_eq_some_iff.mp e8
    have hD3 : H3 Dl = some (.lst vs) := s3 _ _ hDl
    have all3 : ∀ b o, H1 b = some o → H3 b = some o := fun b o e => s3 b o (hkp b o e)
    have sm : Same H1 H3 := all3
    have fr3 : Fre (fun b => P b ∧ b ≠ Dl) H3 := fre_minus (fr1.same sm) (by rw [hD3]; simp)
    have er3 : ER X.mg (fun b => P b ∧ b ≠ Dl) ks' H3 (L2.wipe σ (own.map (·.2))) (wipeE ρ (own.map (·.2))) := ER.wipe (er1.mono sm fun a ha pa => ⟨pa, fun e => ha (e ▸ hD)⟩) hk
    refine ⟨_, _, _, d, rd, er3, e7, fun σ' er' hl hj => ⟨wipe_eq hl hj his, ?_⟩⟩
    refine ⟨_, ρ', b, fr3, er', e9, fun H4 s4 => ?_⟩
    have all4 : ∀ b o, H1 b = some o → H4 b = some o := fun b o e => s4 b o (all3 b o e)
    cases b with
    | false =>
      rw [if_neg Bool.false_ne_true] at e10
      refine iteF ?_
      cases e10
      exact ⟨vs, pre ++ [], e4', s4 _ _ hD3, by rw [List.append_nil]; exact (hr.same s3).same s4, all4⟩
    | true =>
      rw [if_pos rfl] at e10
      refine iteT ?_
      obtain ⟨y, e11, rfl⟩ := Option.map_eq_some_iff.mp e10
      refine ⟨_, ρ', y, fr3.same s4, er'.same s4, e11, fun v H5 s5 r5 => ?_⟩
      have hD5 : H5 Dl = some (.lst vs) := s5 _ _ (s4 _ _ hD3)
      have rl := ((hr.same s3).same s4).same s5
      refine ⟨vs, hD5, ?_, vs ++ [v], pre ++ [y], e4', upd_same, ?_, fun b o e => ?_⟩
      · rw [rl.len]
        have : outs.length = (pre ++ [y]).length + post.length := by rw [e5, List.length_append]
        rw [List.length_append, List.length_singleton] at this
        omega
      · have r6 : RepL (fun b => P b ∧ b ≠ Dl) H5 (pre ++ [y]) (vs ++ [v]) := rl.app (by simp only [RepL]; exact ⟨v, [], rfl, r5, rfl⟩)
        exact RepL.chg (by rw [hD5]; trivial) (fun z => z.2 rfl) _ _ r6
      · rw [upd_ne (ne_of_none e hD)]
        exact s5 b o (all4 b o e)
  · rintro H2 ⟨vs, pre, hpre, hDl, hr, hkp⟩
    rw [List.take_length, e2] at hpre
    cases hpre
    refine k _ H2 (s1.trans hkp) ⟨?_, ?_⟩
    · simp only [Rep]
      exact ⟨Dl, vs, rfl, fr1 Dl hD, hDl, hr.weak fun a z => z.1⟩
    · exact topNew_ref (s1.free hD)

theorem peOr {X : Cx} {e : Expr} {t u : TE} (h : PE X e t) (g : PE X e u) : PE X e (fun σ H Q => t σ H Q ∨ u σ H Q) :=
  ⟨fun pins s σ H Q I q => q.elim (fun z => h.run pins s σ H Q I z) fun z => g.run pins s σ H Q I z⟩
theorem same_off {H H' : Hp} {a : Addr} {u : HO} {od : Obj} (h : H a = some u) (s : Same (upd H a (.frz od u)) H') : Same H (upd H' a u) := fun b o e => by
  by_cases c : b = a
  · subst c; rw [h] at e; cases e; exact upd_same
  · rw [L2.upd_ne c]
    exact s b o (by rw [L2.upd_ne c]; exact e)
theorem evN_lcD {X : Cx} {ks ks' : Ks} {F : Fn} {elt tg : Expr} {ifs : List Expr} {scope : Scope} {own : List (Str × Nat)} {pos p : Pos} {i : Nat} {x : Str} {is : List Nat} {asg : SG} {ft : SB} {fe : SE} (hc : X.calm = true) (hN : X.N.Nodup)
    (hi : X.N[i]? = some x) (hv : Vis X.env.scope x) (hd : (x == ("__debug__" : Str)) = false) (hcd : (x == ("__classdict__" : Str)) = false) (ok : BlkOk X.N X.env.scope scope own) (his : ∀ j ∈ is, j ∈ own.map (·.2)) (hk : ∀ i, i ∉ own.map (·.2) → kd ks' i = kd ks i)
    (hg : ∀ (s : Shared) (H : Hp) (C : Addr) (cl : List (Str × Addr)) (fp : List Addr), EvG (X.blk s H scope (compEnvC scope cl C X.env) fp) ks' tg is asg)
    (ht : ∀ (s : Shared) (H : Hp) (C : Addr) (cl : List (Str × Addr)) (fp : List Addr), EvTs (X.blk s H scope (compEnvC scope cl C X.env) fp) ks' F ifs ft)
    (he : ∀ (s : Shared) (H : Hp) (C : Addr) (cl : List (Str × Addr)) (fp : List Addr), EvE (X.blk s H scope (compEnvC scope cl C X.env) fp) ks' F elt fe)
    (hs : ∀ y, foldedSetIterable (.Name x p) X.env y = pure y) : EvN X ks F (.ListComp elt [⟨tg, .Name x p, ifs, 0⟩] scope pos) (cLc (own.map (·.2)) (cKeys i) asg ft fe) := by
  obtain ⟨t, pt, q⟩ := evx_lc hc hN (evIx_keys (F := F) (ks := ks) (tg := tg) (pos := p) hi hv hd hcd) ok his hk hg ht he hs
  refine ⟨_, peOr pt (pe_lock pt), fun σ H P ρ Q d fr er ev k => ?_⟩
  obtain ⟨ds, e1, ev1⟩ := Option.bind_eq_some_iff.mp ev
  obtain ⟨tt, kvs, e2, rfl⟩ := cKeys_some e1
  obtain ⟨v, e3, r⟩ := er.2 i _ e2
  obtain ⟨a, ps, rfl, hh, hkv⟩ := r.toB.dic
  have cases2 : (∃ u, isDO u ∧ H a = some u) ∨ ∃ o u, isDO u ∧ H a = some (.frz o u) := by
    cases tt with
    | false =>
      obtain ⟨kk, rd, _⟩ := hh
      rcases rd with rd | ⟨o, rd⟩
      · exact .inl ⟨.dK kk, trivial, rd⟩
      · exact .inr ⟨o, .dK kk, trivial, rd⟩
    | true =>
      obtain ⟨kk, rd, _⟩ := hh
      rcases rd with rd | ⟨o, rd⟩
      · exact .inl ⟨.dT kk, trivial, rd⟩
      · exact .inr ⟨o, .dT kk, trivial, rd⟩
  rcases cases2 with ⟨u, hu, ha⟩ | ⟨o, u, hu, ha⟩
  · refine .inr ⟨a, u, ha, hu.mut, fun od => ?_⟩
    have lk := lck_on ha hu od
    refine q σ _ ⟨a, od, u, e3, upd_same⟩ P ρ _ d (fr.lck lk) (er.lck lk) ev fun w H' s ⟨r1, r2⟩ => ?_
    have ha' := s a _ upd_same
    refine ⟨ha', k w _ (same_off ha s) ⟨Rep.lck (lck_off ha' hu) d w r1, ?_⟩⟩
    cases d <;> simp only [TopNew] at r2 ⊢ <;> exact fun b eb => lk.free b (r2 b eb)
  · exact .inl (q σ H ⟨a, o, u, e3, ha⟩ P ρ Q d fr er ev k)
end RE
/-! RE13i: dicts made by a comprehension, keys alone or tuples. -/
namespace RE
open PySem PySem.Spec PyProof.Rows L2

def newD (k : Bool) : HO := if k then .dT [] else .dK []
theorem new_ok (k : Bool) {P : Program} {w : World} {H : Hp} (h : Heap) (hb : sysModules < h.objs.size) : ObjOk P w H (h.push { cls := .type "dict", data := .dict #[] }) h.objs.size (newD k) := by
  cases k
  · exact dk_empty h hb
  · exact dt_empty h hb
theorem d_dictSetG {X : Cx} {pins : List (Addr × Obj)} {σ : L2.St} {H H' : Hp} {s : Shared} {E : Value → Shared → Prop} {a : Addr} {y v : V} {u r : Value} {Q : Unit → Shared → Prop} (hu : X.A.units + 1 < cLine) (I : Inv X pins σ H s) (g : DPut H a y v H') (ry : RelV y u) (rv : RelV v r)
    (h : ∀ s', Inv X pins σ H' s' → Q () s') : wpAny (model X.prog X.w) X.A (dictSet a u r) Q E s := by
  rcases g with ⟨kvs, k, e, ey, l, eH⟩ | ⟨kvs, k, b, e, ey, eb, l, eH⟩
  · subst ey eH
    obtain ⟨z, hd, vs, rel, dd⟩ := dk_of I.hok e
    have hz : vs.length ≤ sizeLine := by rw [← rel.length]; exact z
    have hl : (putK kvs k v).length ≤ sizeLine := by have := length_putK kvs k v; omega
    refine wpAny_dictSet_pairs (hsz := hz) (kV_is ry) dd fun h' dd' hs => h _ ?_
    exact d_write I (by rw [e]; exact True.intro) hs (let ⟨q, _, _, hq, _⟩ := dd'; ⟨q, hq⟩) (dk_new hl hd (rel.put k rv) dd')
  · subst ey eH
    cases (show u = Value.ref b from ry)
    obtain ⟨z, hd, xs, rel, dd⟩ := dt_of I.hok e
    have hz : xs.length ≤ sizeLine := by rw [← Paired.length rel]; exact z
    have hl : (putK kvs k v).length ≤ sizeLine := by have := length_putK kvs k v; omega
    refine wpAny_dictSet_heap (hsz := hz) (show (tupleKind (mixKind X.prog X.w)).room X.A from Nat.lt_of_succ_lt hu) (key_of I.hok eb) dd fun h' dd' hs => h _ ?_
    obtain ⟨q, es, ep, hq, h2, h3, h4, _, h5⟩ := dd'
    refine d_write I (by rw [e]; exact True.intro) hs ⟨q, hq⟩ ⟨hl, hd, _, (rel.put k eb rv).keeps fun c ys ec => ?_, q, es, ep, hq, h2, h3, h4, h5⟩
    rw [upd_ne (ne_of ec e (fun z => nomatch z))]
    exact ec
section
variable {X : Cx}
/-- {kx: vx for target in iter if ..}; k: keys are tuples -/
def tDg (k : Bool) (wi : TI) (g : TG) (tt : TT) (tk tv : TE) (vs : List Nat) : TE := fun σ H Q => wi σ H fun J H1 => ∀ D, H1 D = none → ∃ W : Nat → Nat → Hp → Prop, (∃ m, W 0 m (upd H1 D (newD k))) ∧ ∀ i m H, W i m H →
  (J.stop i H ∧ Q (.ref D) H) ∨ (J.go i H ∧ ∃ Nx : Hp → Prop, (∀ H', Nx H' → ∃ m', m' < m ∧ W (i + 1) m' H') ∧ ∀ x H', J.yld i H x H' → g x (wipe σ vs) H' fun σ2 H2 => wipe σ2 vs = wipe σ vs ∧ tt σ2 H2 fun b H3 =>
    if b = true then tk σ2 H3 fun y H4 => tv σ2 H4 fun z H5 => ∃ H6, DPut H5 D y z H6 ∧ Nx H6 else Nx H3)
theorem dg_core (k : Bool) {pins : List (Addr × Obj)} {s : Shared} {σ : L2.St} {H : Hp} {Q : VK} {kx vx tg iter : Expr} {ifs : List Expr} {scope : Scope} {own : List (PySem.Str × Nat)} {p1 p2 : Pos} {wi : TI} {g : TG} {tt : TT} {tk tv : TE} {use : Option (Value → Sem Unit)} {Qf : Value → Shared → Prop}
    (hu : X.A.units + 1 < cLine) (hc : X.calm = true) (hN : X.N.Nodup) (I : Inv X pins σ H s) (hi : PI X tg iter wi) (ok : BlkOk X.N X.env.scope scope own)
    (hg : ∀ (s : Shared) (H : Hp) (C : Addr) (cl : List (PySem.Str × Addr)) (fp : List Addr), PG (X.blk s H scope (compEnvC scope cl C X.env) fp) tg g)
    (ht : ∀ (s : Shared) (H : Hp) (C : Addr) (cl : List (PySem.Str × Addr)) (fp : List Addr), PTs (X.blk s H scope (compEnvC scope cl C X.env) fp) ifs tt)
    (hk : ∀ (s : Shared) (H : Hp) (C : Addr) (cl : List (PySem.Str × Addr)) (fp : List Addr), PE (X.blk s H scope (compEnvC scope cl C X.env) fp) kx tk)
    (he : ∀ (s : Shared) (H : Hp) (C : Addr) (cl : List (PySem.Str × Addr)) (fp : List Addr), PE (X.blk s H scope (compEnvC scope cl C X.env) fp) vx tv)
    (hs : ∀ x, foldedSetIterable iter X.env x = pure x) (h : tDg k wi g tt tk tv (own.map (·.2)) σ H Q)
    (hE : ∀ D C z m H', Inv X pins σ H' z → Q (.ref D) H' → z.heap.Ns C m → FpOk X pins H' C → compPost (model X.prog X.w) X.A X.xe use Qf (.ref D) C (.ok .next) z) :
    wpAny (model X.prog X.w) X.A (comprehension (.DictComp kx vx [⟨tg, iter, ifs, 0⟩] scope p1) scope X.env p2 newDict false (eval iter X.env) use) Qf X.xe s := by
  have fr : ∀ y ∈ scope.names, y.2 = .free → ∃ c, X.env.cells.lookup y.1 = some c := fun y hy e => (ok.free y hy e).elim (fun k => I.ok.has _ (.inl k)) fun k => I.ok.has _ (.inr k)
  refine wpAny_comprehension_free (use := use) rfl hs (closure_ok fr) ok.kind (fun y hy e => by rw [ok.uniq y hy, e]) (thn (hi.run pins s σ H _ I h) fun _ s1 hx => thn hx fun _ s2 ⟨it, fp, tn, J, H2, e0, I2, T, t2, f2, q⟩ => ?_)
  subst e0
  refine wpAny_newObj_type (newEnv_comp ?_)
  generalize eD : s2.heap.objs.size = D
  have nD : H2 D = none := I2.hok.fresh (Nat.le_of_eq eD)
  obtain ⟨W, ⟨m0, w0⟩, turn⟩ := q D nD
  generalize e3 : ({ s2 with heap := s2.heap.push { cls := .type "dict", data := .dict #[] } } : Shared) = s3
  have h3 : s3.heap = s2.heap.push { cls := .type "dict", data := .dict #[] } := by rw [← e3]
  have I3 : Inv X pins σ (upd H2 D (newD k)) s3 := by
    rw [← e3]
    refine I2.laid (t' := s2.toks) (fun b o e => Heap.get?_push_of_some _ e) (Nat.le_of_eq eD) ?_
    rw [← eD]
    exact new_ok k s2.heap I2.big
  have lt : ∀ b ∈ fp, b < s2.heap.objs.size := fun b hb => let ⟨_, e, _⟩ := T.obj _ _ t2 b hb; Heap.lt_size e
  have f3 : ∀ b ∈ fp, FpOk X pins (upd H2 D (newD k)) b ∧ b < s3.heap.objs.size := fun b hb => by
    refine ⟨⟨?_, (f2 b hb).2⟩, by rw [h3, Heap.size_push]; exact Nat.lt_succ_of_lt (lt b hb)⟩
    rw [upd_ne (by rw [← eD]; exact Nat.ne_of_lt (lt b hb))]
    exact (f2 b hb).1
  have t3 : tn 0 s3.heap := T.keep _ _ _ t2 fun b _ o e => by rw [h3]; exact Heap.get?_push_of_some _ e
  have I4 := block_start I3 ok hN f3
  have pg := hg s3 (upd H2 D (newD k)) s3.heap.objs.size (cellsFrom (s3.heap.objs.size + 1) scope.names (cloFrom X.env.cells scope.names [])) fp
  have pt := ht s3 (upd H2 D (newD k)) s3.heap.objs.size (cellsFrom (s3.heap.objs.size + 1) scope.names (cloFrom X.env.cells scope.names [])) fp
  have pk := hk s3 (upd H2 D (newD k)) s3.heap.objs.size (cellsFrom (s3.heap.objs.size + 1) scope.names (cloFrom X.env.cells scope.names [])) fp
  have pe := he s3 (upd H2 D (newD k)) s3.heap.objs.size (cellsFrom (s3.heap.objs.size + 1) scope.names (cloFrom X.env.cells scope.names [])) fp
  show codeAny _ _ (.compStart (.DictComp kx vx [⟨tg, iter, ifs, 0⟩] scope p1) 0 (.ref it) (.ref D) (compEnvC scope (cellsFrom (s3.heap.objs.size + 1) scope.names (cloFrom X.env.cells scope.names [])) s3.heap.objs.size X.env)) (compPost (model X.prog X.w) X.A X.xe use Qf (.ref D) s3.heap.objs.size) { s3 with heap := pushCells (s3.heap.push { cls := .type "dict", data := .dict #[] }) scope.names }
  have nf : ∀ b ∈ fp, (upd H2 D (newD k)) b = none := fun b hb => (f3 b hb).1.1
  generalize ec : compEnvC scope (cellsFrom (s3.heap.objs.size + 1) scope.names (cloFrom X.env.cells scope.names [])) s3.heap.objs.size X.env = ce at I4 pg pt pk pe ⊢
  have eL : ce.locals = s3.heap.objs.size := by subst ec; rfl
  generalize eH : upd H2 D (newD k) = H3 at I3 I4 pg pt pk pe w0 nf f3
  generalize e4 : ({ s3 with heap := pushCells (s3.heap.push { cls := .type "dict", data := .dict #[] }) scope.names } : Shared) = s4 at I4 ⊢
  have t4 : tn 0 s4.heap := T.keep _ _ _ t3 fun b _ o e => by rw [← e4]; exact pushCells_keeps _ _ _ _ (Heap.get?_push_of_some _ e)
  have stat : ∀ {σ' : L2.St} {H' : Hp} {z : Shared}, Inv (X.blk s3 H3 scope ce fp) [] σ' H' z → (∀ b ∈ fp, H' b = none) → ∀ b ∈ fp, FpOk (X.blk s3 H3 scope ce fp) [] H' b := fun I' hn b hb =>
    ⟨hn b hb, (I'.ok.exf b hb).1, I'.ok.exfs b hb, .inl hb, fun x c e => (I'.ok.exf b hb).2 x c e, fun p hp => absurd (show p ∈ ([] : List (Addr × Obj)) ++ [] from hp) (by simp)⟩
  have loop : codeAny (model X.prog X.w) X.A (.compLoop (.DictComp kx vx [⟨tg, iter, ifs, 0⟩] scope p1) 0 (.ref it) (.ref D) ce) (compPost (model X.prog X.w) X.A X.xe use Qf (.ref D) s3.heap.objs.size) s4 := by
    refine compLoop_anyD (fun n z => ∃ i H', Inv (X.blk s3 H3 scope ce fp) [] (wipe σ (own.map (·.2))) H' z ∧ tn i z.heap ∧ (∀ b ∈ fp, H' b = none) ∧ W i n H') ?_ m0 ⟨0, H3, I4, t4, nf, w0⟩
    rintro n s5 ⟨i, H5, I5, t5, n5, w5⟩
    rcases turn i n H5 w5 with ⟨stop, qq⟩ | ⟨go, Nx, hNx, step⟩
    · refine thnF (T.done (X.blk s3 H3 scope ce fp) rfl rfl rfl hc i [] s5 _ H5 (fun _ _ => False) I5 (stat I5 n5) t5 stop) fun r s6 ⟨er, I6⟩ => ?_
      subst er
      have I7 : Inv X pins σ H5 s6 := I3.call' (ch := fp) I6.os I6.base I6.hok I6.bare fun b hb => ⟨(f3 b hb).1.2.2.2.1, (f3 b hb).1.2.1, (f3 b hb).1.2.2.2.2.1, (f3 b hb).1.2.2.2.2.2⟩
      have nC : H5 s3.heap.objs.size = none := eL ▸ I6.free
      obtain ⟨m, hn, _⟩ := I6.loc
      have hn : s6.heap.Ns ce.locals m := hn
      rw [eL] at hn
      exact hE D s3.heap.objs.size s6 m H5 I7 qq hn (I3.fpOk (Nat.le_refl _) nC)
    · refine thnF (T.item (X.blk s3 H3 scope ce fp) rfl rfl rfl hc i [] s5 _ H5 (fun _ _ => False) I5 (stat I5 n5) t5 go) fun r s6 ⟨u, er, h6⟩ => ?_
      subst er
      refine thnF h6 fun _ s7 ⟨x, H7, I7, r7, y7, t7, n7⟩ => ?_
      refine thnF (pg.run _ s7 _ H7 x u _ (I7.pinned (stat I7 n7) (T.obj _ _ t7)) r7 (step x H7 y7)) fun _ s8 ⟨σ8, H8, I8, w8, q8⟩ => ?_
      refine thnF (pt.run _ s8 σ8 H8 _ I8 q8) fun b s9 ⟨H9, I9, q9⟩ => ?_
      have fin : ∀ {z : Shared} {H' : Hp}, Inv (X.blk s3 H3 scope ce fp) ([] ++ pinsAt fp s7.heap) σ8 H' z → Nx H' → ∃ m, m < n ∧ ∃ i H', Inv (X.blk s3 H3 scope ce fp) [] (wipe σ (own.map (·.2))) H' z ∧ tn i z.heap ∧ (∀ b ∈ fp, H' b = none) ∧ W i m H' := fun {z H'} I' nx => by
        obtain ⟨m', hm, w'⟩ := hNx H' nx
        have pin : ∀ b ∈ fp, ∀ o, s7.heap.get? b = some o → z.heap.get? b = some o ∧ H' b = none := fun b hb o e =>
          let y := I'.pin (b, o) (List.mem_append_right _ (List.mem_append_right _ (mem_pinsAt hb e)))
          ⟨y.1, y.2.1⟩
        refine ⟨m', hm, i + 1, H', (I'.unpinned (pins := [])).weak (by rw [← w8, wipe_length]) (fun j v e => ?_), T.keep _ _ _ t7 fun b hb o e => (pin b hb o e).1, fun b hb => ?_, w'⟩
        · rw [← w8] at e
          exact (wipe_some e).1
        · obtain ⟨o, e, _⟩ := T.obj _ _ t7 b hb
          exact (pin b hb o e).2
      cases b with
      | false =>
        simp only [Bool.false_eq_true, if_false] at q9 ⊢
        exact fin I9 q9
      | true =>
        simp only [if_true] at q9 ⊢
        refine thnF (pk.run _ s9 σ8 H9 _ I9 q9) fun z s10 ⟨yk, H10, I10, r10, q10⟩ => ?_
        refine thnF (pe.run _ s10 σ8 H10 _ I10 q10) fun z2 s11 ⟨yv, H11, I11, r11, H6, g6, nx⟩ => ?_
        exact d_dictSetG (X := X.blk s3 H3 scope ce fp) hu I11 g6 r10 r11 fun s12 I12 => fin I12 nx
  exact codeAny_compStart_dict loop (T.self X.A 0 _ _ _ t4 loop)
theorem pe_dg (k : Bool) (hu : X.A.units + 1 < cLine) {kx vx tg iter : Expr} {ifs : List Expr} {scope : Scope} {own : List (PySem.Str × Nat)} {pos : Pos} {wi : TI} {g : TG} {tt : TT} {tk tv : TE} (hc : X.calm = true) (hN : X.N.Nodup) (hi : PI X tg iter wi) (ok : BlkOk X.N X.env.scope scope own)
    (hg : ∀ (s : Shared) (H : Hp) (C : Addr) (cl : List (PySem.Str × Addr)) (fp : List Addr), PG (X.blk s H scope (compEnvC scope cl C X.env) fp) tg g)
    (ht : ∀ (s : Shared) (H : Hp) (C : Addr) (cl : List (PySem.Str × Addr)) (fp : List Addr), PTs (X.blk s H scope (compEnvC scope cl C X.env) fp) ifs tt)
    (hk : ∀ (s : Shared) (H : Hp) (C : Addr) (cl : List (PySem.Str × Addr)) (fp : List Addr), PE (X.blk s H scope (compEnvC scope cl C X.env) fp) kx tk)
    (he : ∀ (s : Shared) (H : Hp) (C : Addr) (cl : List (PySem.Str × Addr)) (fp : List Addr), PE (X.blk s H scope (compEnvC scope cl C X.env) fp) vx tv) (hs : ∀ x, foldedSetIterable iter X.env x = pure x) :
    PE X (.DictComp kx vx [⟨tg, iter, ifs, 0⟩] scope pos) (tDg k wi g tt tk tv (own.map (·.2))) := by
  refine ⟨fun pins s σ H Q I h => ?_⟩
  rw [arm_eval_DictComp]
  refine dg_core k hu hc hN I hi ok hg ht hk he hs h fun D C z m H' I' q hn f => ⟨m, hn, fun h2 sb => ?_⟩
  obtain ⟨f0, f1, _, f3, f4, f5⟩ := f
  exact ⟨.ref D, H', I'.turned (t' := z.toks) (fun b o hb e => (sb.2 b hb).trans e) f0 f1 f3 f4 f5, rfl, q⟩
end
section
variable {X : Cx} {ks ks' : Ks} {F : Fn} {pos : Pos}
def dcOne (asg : SG) (t : SB) (kx vx : SE) (F : Fn) (ρ : RE.Env) (d : D) : Option (Option (D × D)) := (asg d ρ).bind fun ρ' => (t F ρ').bind fun b => if b then (kx F ρ').bind fun y => (vx F ρ').map fun z => some (y, z) else some none
def dcPut (acc : D) : Option (D × D) → Option D
  | none => some acc
  | some p => putD acc p.1 p.2
def dcFold (one : D → Option (Option (D × D))) : D → List D → Option D
  | acc, [] => some acc
  | acc, d :: ds => (one d).bind fun p => (dcPut acc p).bind fun acc' => dcFold one acc' ds
theorem dcFold_app (one : D → Option (Option (D × D))) : ∀ (a b : List D) (acc : D), dcFold one acc (a ++ b) = (dcFold one acc a).bind fun acc' => dcFold one acc' b
  | [], b, acc => rfl
  | d :: a, b, acc => by
    rw [List.cons_append, dcFold, dcFold, Option.bind_assoc]
    congr 1; funext p
    rw [Option.bind_assoc]
    congr 1; funext acc'
    exact dcFold_app one a b acc'
/-- {kx: vx for target in iter if ..} -/
def cDc (k : Bool) (own : List Nat) (fi : SL) (asg : SG) (t : SB) (kx vx : SE) : SE := fun F ρ => (fi F ρ).bind fun ds => dcFold (dcOne asg t kx vx F (wipeE ρ own)) (.dic k []) ds
theorem putD_dic {k : Bool} {kvs : List (D × D)} {y z d : D} (h : putD (.dic k kvs) y z = some d) : ∃ kvs', d = .dic k kvs' := by
  simp only [putD] at h
  split at h
  · obtain ⟨q, _, rfl⟩ := Option.map_eq_some_iff.mp h
    exact ⟨q, rfl⟩
  · cases h
theorem evM_dc (k : Bool) {kx vx tg iter : Expr} {ifs : List Expr} {scope : Scope} {own : List (Str × Nat)} {fi : SL} {is : List Nat} {asg : SG} {ft : SB} {fk fe : SE} (hu : X.A.units + 1 < cLine) (hc : X.calm = true) (hN : X.N.Nodup)
    (hi : EvI X ks F tg iter fi) (ok : BlkOk X.N X.env.scope scope own) (his : ∀ j ∈ is, j ∈ own.map (·.2)) (hk : ∀ i, i ∉ own.map (·.2) → kd ks' i = kd ks i)
    (hg : ∀ (s : Shared) (H : Hp) (C : Addr) (cl : List (Str × Addr)) (fp : List Addr), EvG (X.blk s H scope (compEnvC scope cl C X.env) fp) ks' tg is asg)
    (ht : ∀ (s : Shared) (H : Hp) (C : Addr) (cl : List (Str × Addr)) (fp : List Addr), EvTs (X.blk s H scope (compEnvC scope cl C X.env) fp) ks' F ifs ft)
    (hx : ∀ (s : Shared) (H : Hp) (C : Addr) (cl : List (Str × Addr)) (fp : List Addr), EvE (X.blk s H scope (compEnvC scope cl C X.env) fp) ks' F kx fk)
    (he : ∀ (s : Shared) (H : Hp) (C : Addr) (cl : List (Str × Addr)) (fp : List Addr), EvE (X.blk s H scope (compEnvC scope cl C X.env) fp) ks' F vx fe)
    (hs : ∀ x, foldedSetIterable iter X.env x = pure x) : EvM X ks F (.DictComp kx vx [⟨tg, iter, ifs, 0⟩] scope pos) (cDc k (own.map (·.2)) fi asg ft fk fe) := by
  obtain ⟨wi, pi, q⟩ := hi.ex
  refine ⟨_, pe_dg k hu (g := tG X.mg ks' is asg) (tt := tT X.mg ks' F ft) (tk := tE X.mg ks' F fk) (tv := tE X.mg ks' F fe) hc hN pi ok (fun s H C cl fp => (hg s H C cl fp).can) (fun s H C cl fp => (ht s H C cl fp).can) (fun s H C cl fp => (hx s H C cl fp).can) (fun s H C cl fp => (he s H C cl fp).can) hs, fun σ H P ρ Q d fr er ev kQ => ?_⟩
  obtain ⟨ds, e1, e2⟩ := Option.bind_eq_some_iff.mp ev
  refine q σ H P ρ _ ds fr er e1 fun J H1 src s1 wk top Dl hD => ?_
  have fr1 := fr.same s1
  have er1 := er.same s1
  have wk := wk (fun b => P b ∧ b ≠ Dl) fun a ha pa => ⟨pa, fun e => ha (e ▸ hD)⟩
  have kept : ∀ H2, (∀ b o, H1 b = some o → H2 b = some o) → Kept (fun b => P b ∧ b ≠ Dl) src H1 H2 := fun H2 h b o e _ => h b o e
  let Pv : Nat → Hp → Prop := fun i H2 => ∃ kvs, dcFold (dcOne asg ft fk fe F (wipeE ρ (own.map (·.2)))) (.dic k []) (ds.take i) = some (.dic k kvs) ∧ RepB X.mg (fun b => P b ∧ b ≠ Dl) H2 (.dic k kvs) (.ref Dl) ∧ Chg (H2 Dl) ∧ ∀ b o, H1 b = some o → H2 b = some o
  refine it_gen (n := ds.length) (Pv := Pv) ?_ ?_ ?_ ?_
  · refine ⟨[], by simp [dcFold], ?_, ?_, fun b o e => ?_⟩
    · simp only [RepB]
      cases k
      · exact ⟨Dl, [], rfl, ⟨[], .inl upd_same, rfl⟩, by simp only [RepKV]⟩
      · exact ⟨Dl, [], rfl, ⟨[], .inl upd_same, rfl⟩, by simp only [RepKV]⟩
    · rw [upd_same]; cases k <;> trivial
    · rw [upd_ne (ne_of_none e hD)]; exact e
  · rintro i H2 hi ⟨kvs, _, _, _, h⟩
    exact wk.goes H2 i (kept H2 h) hi
  · rintro H2 ⟨kvs, hf, hr, hch, hkp⟩
    refine ⟨wk.stops H2 (kept H2 hkp), ?_⟩
    rw [List.take_length, e2] at hf
    cases hf
    refine kQ _ H2 (s1.trans hkp) ⟨?_, topNew_ref (s1.free hD), fun _ a ea => by cases ea; exact hch⟩
    simp only [RepB] at hr
    obtain ⟨a, ps, ea, h1, h2⟩ := hr
    cases ea
    simp only [Rep]
    exact ⟨Dl, ps, rfl, fr1 Dl hD, h1, h2.weak fun a z => z.1⟩
  · rintro i x H2 H3 hi ⟨kvs, hf, hr, hch, hkp⟩ yl
    obtain ⟨s3, d', hd, rd⟩ := wk.yields H2 i x H3 (kept H2 hkp) hi yl
    have e3 : ds.take (i + 1) = ds.take i ++ [d'] := by rw [List.take_add_one, hd]; rfl
    have e4 : ∃ z, dcFold (dcOne asg ft fk fe F (wipeE ρ (own.map (·.2)))) (.dic k []) (ds.take (i + 1)) = some z := by
      have := dcFold_app (dcOne asg ft fk fe F (wipeE ρ (own.map (·.2)))) (ds.take (i + 1)) (ds.drop (i + 1)) (.dic k [])
      rw [List.take_append_drop, e2] at this
      obtain ⟨z, hz, _⟩ := Option.bind_eq_some_iff.mp this.symm
      exact ⟨z, hz⟩
    obtain ⟨z, e4⟩ := e4
    have e4' := e4
    rw [e3, dcFold_app, hf] at e4
    simp only [Option.bind_some, dcFold] at e4
    obtain ⟨p, e6, e6'⟩ := Option.bind_eq_some_iff.mp e4
    obtain ⟨z', e6'', ez⟩ := Option.bind_eq_some_iff.mp e6'
    cases ez
    obtain ⟨ρ', e7, e8⟩ := Option.bind_eq_some_iff.mp e6
    obtain ⟨b, e9, e10⟩ := Option.bind_eq_some_iff.mp e8
    have all3 : ∀ b o, H1 b = some o → H3 b = some o := fun b o e => s3 b o (hkp b o e)
    have hD2 : H2 Dl ≠ none := fun z => by rw [z] at hch; exact hch
    have keepD : ∀ {H'}, Same H2 H' → Chg (H' Dl) ∧ H' Dl ≠ none := fun {H'} s => by
      cases ho : H2 Dl with
      | none => exact absurd ho hD2
      | some o => rw [s _ _ ho, ← ho]; exact ⟨hch, hD2⟩
    have fr3 : Fre (fun b => P b ∧ b ≠ Dl) H3 := fre_minus (fr1.same all3) (keepD s3).2
    have er3 : ER X.mg (fun b => P b ∧ b ≠ Dl) ks' H3 (L2.wipe σ (own.map (·.2))) (wipeE ρ (own.map (·.2))) := ER.wipe (er1.mono all3 fun a ha pa => ⟨pa, fun e => ha (e ▸ hD)⟩) hk
    refine ⟨_, _, _, d', rd, er3, e7, fun σ' er' hl' hj => ⟨wipe_eq hl' hj his, ?_⟩⟩
    refine ⟨_, ρ', b, fr3, er', e9, fun H4 s4 => ?_⟩
    have all4 : ∀ b o, H1 b = some o → H4 b = some o := fun b o e => s4 b o (all3 b o e)
    cases b with
    | false =>
      rw [if_neg Bool.false_ne_true] at e10
      refine iteF ?_
      cases e10
      cases e6''
      exact ⟨kvs, e4', (hr.same s3).same s4, (keepD (s3.trans s4)).1, all4⟩
    | true =>
      rw [if_pos rfl] at e10
      refine iteT ?_
      obtain ⟨y, e11, e12⟩ := Option.bind_eq_some_iff.mp e10
      obtain ⟨zz, e13, rfl⟩ := Option.map_eq_some_iff.mp e12
      refine ⟨_, ρ', y, fr3.same s4, er'.same s4, e11, fun v H5 s5 r5 => ?_⟩
      refine ⟨_, ρ', zz, (fr3.same s4).same s5, (er'.same s4).same s5, e13, fun w H6 s6 r6 => ?_⟩
      have s26 : Same H2 H6 := ((s3.trans s4).trans s5).trans s6
      obtain ⟨kvs', rfl⟩ := putD_dic e6''
      have r5' : RepB X.mg (fun b => P b ∧ b ≠ Dl) H6 y v := (r5.same s6).toB
      obtain ⟨_, uo, cu, hst, rr⟩ := putD_ok (mg := X.mg) (P := fun b => P b ∧ b ≠ Dl) (keepD s26).1 (fun z => z.2 rfl) (hr.same s26) r5' r6 e6''
      have fin : Pv (i + 1) (upd H6 Dl uo) := ⟨kvs', e4', rr, by rw [upd_same]; exact cu, fun b o e => by
        rw [upd_ne (ne_of_none e hD)]
        exact s6 b o (s5 b o (all4 b o e))⟩
      rcases hst with ⟨p, xs, n, m, z1, z2, z3, z4, z5⟩ | ⟨bb, H', z1, z2, z3⟩
      · exfalso
        cases z1
        have := (hr.same s26).dic
        obtain ⟨a2, ps2, ea2, hd2, _⟩ := this
        cases ea2
        cases k
        · obtain ⟨kk, rd2, _⟩ := hd2
          rcases rd2 with rd2 | ⟨o, rd2⟩ <;> rw [z3] at rd2 <;> cases rd2
        · obtain ⟨kk, rd2, _⟩ := hd2
          rcases rd2 with rd2 | ⟨o, rd2⟩ <;> rw [z3] at rd2 <;> cases rd2
      · cases z1
        exact ⟨H', z2, by rw [z3]; exact fin⟩
theorem EvM.toN {e : Expr} {f : SE} (h : EvM X ks F e f) : EvN X ks F e f :=
  let ⟨t, p, q⟩ := h.ex
  ⟨t, p, fun σ H P ρ Q d fr er ev k => q σ H P ρ Q d fr er ev fun v H' s r => k v H' s ⟨r.1, r.2.1⟩⟩
/-- {} -/
theorem evM_dnew (k : Bool) : EvM X ks F (.Dict [] [] pos) (cC (.dic k [])) := by
  cases k with
  | false =>
    refine ⟨_, pe_dnewK, fun σ H P ρ Q d fr er ev kQ => ?_⟩
    cases ev
    intro p hp
    refine kQ _ _ (same_new hp) ⟨?_, topNew_ref hp, fun _ a ea => by cases ea; rw [upd_same]; trivial⟩
    simp only [Rep]
    exact ⟨p, [], rfl, fr p hp, ⟨[], .inl upd_same, rfl⟩, by simp only [RepKV]⟩
  | true =>
    refine ⟨_, pe_dnewT, fun σ H P ρ Q d fr er ev kQ => ?_⟩
    cases ev
    intro p hp
    refine kQ _ _ (same_new hp) ⟨?_, topNew_ref hp, fun _ a ea => by cases ea; rw [upd_same]; trivial⟩
    simp only [Rep]
    exact ⟨p, [], rfl, fr p hp, ⟨[], .inl upd_same, rfl⟩, by simp only [RepKV]⟩
end
end RE
/-! RE13j: for over a dict's keys. -/
namespace RE
open PySem PySem.Spec PyProof.Rows L2
section
variable {X : Cx} {ks ks' : Ks} {F : Fn} {pos : Pos}
theorem evx_for {L : L2.St → Hp → Prop} {tg iter : Expr} {b : List Stmt} {fi : SL} {is : List Nat} {asg : SG} {body : SS} (hp : PassesOwn (model X.prog X.w) X.A X.env X.xe) (hc : X.calm = true) (dm : Dem ks ks') (hi : EvIx L X ks' F tg iter fi) (hg : EvG X ks' tg is asg) (ht : Touches asg is) (hF : ∀ j ∈ is, kd ks' j = .F) (hb : EvSs X ks' F b body)
    (hs : ∀ x, foldedSetIterable iter X.env x = pure x) : ∃ t : TS, PS X (.For tg iter b [] pos) t ∧ ∀ Hb Pe P H σ ρ D r, L σ H → SR X.mg Hb Pe P ks H σ ρ → sFor fi asg body F ρ = some r → Post X.mg Hb Pe P ks H σ ρ D r → t D σ H := by
  obtain ⟨wi, pi, qi⟩ := hi.ex
  obtain ⟨tb, pb, qb⟩ := hb.ex
  refine ⟨tFor wi (tG X.mg ks' is asg) tb, ps_for hp hc pi hg.can pb hs, fun Hb Pe P H σ ρ D r hL sr ev k => ?_⟩
  obtain ⟨ds, e1, e2⟩ := Option.bind_eq_some_iff.mp ev
  have sr' := sr.dem dm
  refine qi σ H hL P ρ _ ds sr'.fre sr'.er e1 fun J H1 src s1 wk tp => ?_
  have sr1 := sr'.same s1
  refine for_it (n := ds.length) (G := fun H2 => ∃ P2, (∀ a, H1 a ≠ none → P a → P2 a) ∧ Kept P2 src H1 H2) (Y := fun i H2 x H3 => ∀ P2, (∀ a, H1 a ≠ none → P a → P2 a) → Kept P2 src H1 H2 → Same H2 H3 ∧ ∃ d, ds[i]? = some d ∧ Rep P2 H3 d x)
    ⟨fun i H2 hi ⟨P2, h1, h2⟩ => (wk P2 h1).goes H2 i h2 hi, fun H2 ⟨P2, h1, h2⟩ => (wk P2 h1).stops H2 h2, fun i H2 x H3 hi _ y P2 h1 h2 => (wk P2 h1).yields H2 i x H3 h2 hi y⟩
    (fun i σ2 H2 => ∃ P2 ρ2, SR X.mg Hb Pe P2 ks' H2 σ2 ρ2 ∧ Frm ks' P H1 σ ρ P2 H2 σ2 ρ2 ∧ forD asg (body F) (ds.drop i) ρ2 = some r) ?_ ?_ ?_ ?_
  · exact ⟨P, ρ, sr1, Frm.refl, e2⟩
  · rintro i σ2 H2 hi ⟨P2, ρ2, sr2, fm, ev2⟩
    refine ⟨P2, fm.ext, fun b o eb hx => fm.objs b o eb ?_⟩
    rcases hx with z | z | z
    · exact .inl (.inl (fm.sub b z))
    · exact .inr z
    · exact .inl (tp b z)
  · rintro i x σ2 H2 H3 hi ⟨P2, ρ2, sr2, fm, ev2⟩ y
    obtain ⟨s3, d, ed, rd⟩ := y P2 fm.ext fun b o eb hx => fm.objs b o eb (by
      rcases hx with z | z | z
      · exact .inl (.inl (fm.sub b z))
      · exact .inr z
      · exact .inl (tp b z))
    have ed2 : ds.drop i = d :: ds.drop (i + 1) := by
      have hlt := (List.getElem?_eq_some_iff.mp ed).1
      rw [List.drop_eq_getElem_cons hlt]
      congr 1
      exact (List.getElem?_eq_some_iff.mp ed).2
    rw [ed2] at ev2
    obtain ⟨ρ3, e3, e4⟩ := Option.bind_eq_some_iff.mp ev2
    obtain ⟨r3, e5, e6⟩ := Option.bind_eq_some_iff.mp e4
    have sr3 := sr2.same s3
    refine ⟨P2, ρ2, ρ3, d, rd, sr3.er, e3, fun σ3 er3 hl hj => ?_⟩
    have sr4 := sr3.assign hF er3 hj (ht d ρ2 ρ3 e3).2
    have fm4 : Frm ks' P H1 σ ρ P2 H3 σ3 ρ3 := (fm.trans (Frm.of_same s3)).trans (Frm.assign hF hj (ht d ρ2 ρ3 e3).2)
    refine qb Hb Pe P2 H3 σ3 ρ3 _ r3 sr4 e5 ?_
    cases r3 with
    | nx ρ5 => exact fun P5 σ5 H5 sr5 fm5 => ⟨P5, ρ5, sr5, fm4.trans fm5, e6⟩
    | rt w v =>
      cases e6
      exact k
  · rintro σ2 H2 ⟨P2, ρ2, sr2, fm, ev2⟩
    rw [List.drop_length] at ev2
    cases ev2
    have fm' := (Frm.of_same (ks := ks') (P := P) (σ := σ) (ρ := ρ) s1).trans fm
    exact k P2 σ2 H2 (sr.undem dm fm' sr2) (Frm.undem dm fm')

theorem psOr {st : Stmt} {t u : TS} (h : PS X st t) (g : PS X st u) : PS X st (fun D σ H => t D σ H ∨ u D σ H) :=
  ⟨fun pins s σ H D I q => q.elim (fun z => h.run pins s σ H D I z) fun z => g.run pins s σ H D I z⟩
theorem same_lock {Hb H : Hp} {a : Addr} {u : HO} (s : Same Hb H) (od : Obj) : Same (upd Hb a (.frz od u)) (upd H a (.frz od u)) := fun b o e => by
  by_cases c : b = a
  · subst c; rw [upd_same] at e ⊢; exact e
  · rw [L2.upd_ne c] at e ⊢; exact s b o e
theorem evS_forD {tg : Expr} {b : List Stmt} {is : List Nat} {asg : SG} {body : SS} {i : Nat} {x : Str} {p : Pos} (hp : PassesOwn (model X.prog X.w) X.A X.env X.xe) (hc : X.calm = true)
    (hi : X.N[i]? = some x) (hv : Vis X.env.scope x) (hd : (x == ("__debug__" : Str)) = false) (hcd : (x == ("__classdict__" : Str)) = false) (hki : kd ks i = .F ∨ kd ks i = .B)
    (hg : EvG X ks tg is asg) (ht : Touches asg is) (hF : ∀ j ∈ is, kd ks j = .F) (hb : EvSs X ks F b body)
    (hs : ∀ y, foldedSetIterable (.Name x p) X.env y = pure y) : EvS X ks F (.For tg (.Name x p) b [] pos) (sFor (cKeys i) asg body) := by
  obtain ⟨t, pt, q⟩ := evx_for (pos := pos) hp hc Dem.refl (evIx_keys (F := F) (ks := ks) (tg := tg) (pos := p) hi hv hd hcd) hg ht hF hb hs
  refine ⟨_, psOr pt (ps_lock pt), fun Hb Pe P H σ ρ D r sr ev k => ?_⟩
  obtain ⟨ds, e1, ev1⟩ := Option.bind_eq_some_iff.mp ev
  obtain ⟨tt, kvs, e2, rfl⟩ := cKeys_some e1
  obtain ⟨v, e3, rk⟩ := sr.er.2 i _ e2
  obtain ⟨a, ps, rfl, hh, hkv⟩ := rk.toB.dic
  have cases2 : (∃ u, isDO u ∧ H a = some u) ∨ ∃ o u, isDO u ∧ H a = some (.frz o u) := by
    cases tt with
    | false =>
      obtain ⟨kk, rd, _⟩ := hh
      rcases rd with rd | ⟨o, rd⟩
      · exact .inl ⟨.dK kk, trivial, rd⟩
      · exact .inr ⟨o, .dK kk, trivial, rd⟩
    | true =>
      obtain ⟨kk, rd, _⟩ := hh
      rcases rd with rd | ⟨o, rd⟩
      · exact .inl ⟨.dT kk, trivial, rd⟩
      · exact .inr ⟨o, .dT kk, trivial, rd⟩
  rcases cases2 with ⟨u, hu, ha⟩ | ⟨o, u, hu, ha⟩
  · -- an own slot's thing stands elsewhere
    have apart : ∀ j d' a', (kd ks j = .M ∨ kd ks j = .L) → ρ[j]? = some (some d') → isMut d' = true → σ[j]? = some (some (.ref a')) → a' ≠ a := by
      intro j d' a' hj e m es z
      subst z
      obtain ⟨a2, y1, y2, y3, _⟩ := sr.own j d' hj e m
      rw [es] at y1; cases y1
      rcases hki with hk | hk
      · rw [hk] at rk
        simp only [RepK, Rep] at rk
        obtain ⟨a3, _, ea, pa, _⟩ := rk
        cases ea
        exact y3 pa
      · exact sr.bord i _ a' hk e2 rfl e3 y2
    refine .inr ⟨a, u, ha, hu.mut, fun od => ?_⟩
    have lk := lck_on ha hu od
    have hbn : ∀ {b}, upd Hb a (.frz od u) b = none → Hb b = none := fun {b} e => by
      by_cases c : b = a
      · subst c; rw [upd_same] at e; cases e
      · rwa [L2.upd_ne c] at e
    have srL : SR X.mg (upd Hb a (.frz od u)) Pe P ks (upd H a (.frz od u)) σ ρ := {
      freE := fun b e => sr.freE b (hbn e)
      sub := sr.sub
      fre := sr.fre.lck lk
      keep := same_lock sr.keep od
      er := sr.er.lck lk
      own := fun j d' hj e m => by
        obtain ⟨a', y1, y2, y3, y4⟩ := sr.own j d' hj e m
        have ne := apart j d' a' hj e m y1
        exact ⟨a', y1, by rw [L2.upd_ne ne]; exact y2, y3, fun z => by rw [L2.upd_ne ne]; exact y4 z⟩
      dist := sr.dist
      bord := fun j d' a' hj e m es z => sr.bord j d' a' hj e m es (hbn z)
      nofn := sr.nofn }
    refine q (upd Hb a (.frz od u)) Pe P _ σ ρ _ r ⟨a, od, u, e3, upd_same⟩ srL ev ?_
    cases r with
    | nx ρ' =>
      intro P' σ' H' sr' fm
      have ha' : H' a = some (.frz od u) := fm.objs a _ upd_same (.inr fun z => z)
      refine ⟨ha', ?_⟩
      have lo := lck_off ha' hu
      have hne : ∀ {b}, H b ≠ none → upd H a (.frz od u) b ≠ none := fun {b} h z => h (lk.free b z)
      refine k P' σ' _ ⟨sr.freE, sr'.sub, sr'.fre.lck lo, fun b o e => ?_, sr'.er.lck lo, fun j d' hj e m => ?_, sr'.dist, fun j d' a' hj e m es z => ?_, sr'.nofn⟩ ⟨fm.sub, fun b h pb => fm.ext b (hne h) pb, fm.slots, fun b o e hx => ?_, fun c h z => ?_⟩
      · by_cases c : b = a
        · subst c
          have := sr.keep b o e
          rw [ha] at this; cases this
          exact upd_same
        · rw [L2.upd_ne c]; exact sr'.keep b o (by rw [L2.upd_ne c]; exact e)
      · obtain ⟨a', y1, y2, y3, y4⟩ := sr'.own j d' hj e m
        refine ⟨a', y1, hbn y2, y3, fun z => ?_⟩
        by_cases c : a' = a
        · subst c
          rw [upd_same] at y2; cases y2
        · rw [L2.upd_ne c]; exact y4 z
      · have h1 := sr'.bord j d' a' hj e m es
        obtain ⟨g1, g2⟩ := fm.slots j (.inr hj)
        exact sr.bord j d' a' hj (by rw [← g2]; exact e) m (by rw [← g1]; exact es) z
      · by_cases c : b = a
        · subst c; rw [ha] at e; cases e; exact upd_same
        · rw [L2.upd_ne c]
          exact fm.objs b o (by rw [L2.upd_ne c]; exact e) hx
      · by_cases c2 : c = a
        · subst c2; rw [upd_same] at z; cases z
        · rw [L2.upd_ne c2] at z
          exact fm.there c (hne h) z
    | rt w d =>
      intro v H' s r1 r2
      have ha' : H' a = some (.frz od u) := s a _ upd_same
      refine ⟨ha', k v _ (fun b o e => ?_) (Rep.lck (lck_off ha' hu) d v r1) fun z => ?_⟩
      · by_cases c : b = a
        · subst c
          have := sr.keep b o e
          rw [ha] at this; cases this
          exact upd_same
        · rw [L2.upd_ne c]; exact s b o (by rw [L2.upd_ne c]; exact e)
      · have := r2 z
        cases d <;> simp only [TopNew] at this ⊢ <;> exact fun b eb => hbn (this b eb)
  · exact .inl (q Hb Pe P H σ ρ D r ⟨a, o, u, e3, ha⟩ sr ev k)
end
end RE
/-! RE13k: list(d). -/
namespace RE
open PySem PySem.Spec PyProof.Rows L2

theorem crOr {X : Cx} {f : Value} {r1 r2 : List V → Hp → VK → Prop} (h : CallR X f r1) (g : CallR X f r2) : CallR X f (fun xs H Q => r1 xs H Q ∨ r2 xs H Q) := by
  intro pins s σ H vs us Q I r q
  rcases q with q | q
  · exact h pins s σ H vs us Q I r q
  · exact g pins s σ H vs us Q I r q
/-- list(..) of a text -/
theorem call_list_strH {X : Cx} (hc : X.calm = true) : CallR X (.type "list") (fun xs H Q => ∃ z : Str, xs = [.str z] ∧ z.length ≤ sizeLine ∧ ∀ p, H p = none → Q (.ref p) (upd H p (.lst (z.cps.toList.map fun c => .str ⟨#[c]⟩)))) := by
  intro pins s σ H xs us Q I r h
  obtain ⟨z, rfl, hz, q⟩ := h
  obtain ⟨u, rfl, t, rfl⟩ := vals1 r
  refine call_list_str (I.ok.hd hc) z t (fun h' tk acc' c' hkeep hS hacc => ?_) hz
  refine ⟨.ref s.heap.objs.size, _, I.laid hkeep (Nat.le_refl _) (show ObjOk X.prog X.w _ _ _ (.lst (z.cps.toList.map fun c => V.str ⟨#[c]⟩)) from ⟨?_, acc'.toList, c', ?_, ?_⟩), rfl, q _ (I.hok.fresh (Nat.le_refl _))⟩
  · rw [List.length_map, Array.length_toList]; exact hz
  · have el : acc'.toList.length = acc'.size := by simp
    refine vals_of_at (by rw [List.length_map, el, hacc.1, Array.length_toList]) fun j x w h1 h2 => ?_
    obtain ⟨c, u, hc1, hc2⟩ := hacc.2 j w (by rw [← Array.getElem?_toList]; exact h2)
    rw [List.getElem?_map, Array.getElem?_toList, hc1] at h1
    cases h1
    exact ⟨u, hc2⟩
  · rw [Array.toArray_toList]; exact hS
/-- list(..) of a list, a tuple, a dict, a text -/
def listDD : D → Option D
  | .dic _ kvs => some (.lst (kvs.map (·.1)))
  | .str z => if fits z.length then some (.lst (z.cps.toList.map fun c => .str ⟨#[c]⟩)) else none
  | d => listD d
def rList (K : PySem.W.Frag) : List V → Hp → VK → Prop := fun xs H Q => (∃ p ys, xs = [.ref p] ∧ (SqL K H p ys ∨ SqT K H p ys) ∧ ∀ l, H l = none → Q (.ref l) (upd H l (.lst ys))) ∨
  ((∃ (a : Addr) (kvs : List (Key × V)), xs = [.ref a] ∧ Rd H a (.dK kvs) ∧ ∀ p, H p = none → Q (.ref p) (upd H p (.lst (kvs.map fun kv => kV kv.1)))) ∨
  ((∃ d kvs, xs = [V.ref d] ∧ Rd H d (.dT kvs) ∧ ∀ p bs, H p = none → IsKeys H kvs bs → Q (.ref p) (upd H p (.lst (bs.map V.ref)))) ∨
  ∃ z : Str, xs = [.str z] ∧ z.length ≤ sizeLine ∧ ∀ p, H p = none → Q (.ref p) (upd H p (.lst (z.cps.toList.map fun c => .str ⟨#[c]⟩)))))
theorem cr_list {X : Cx} (hc : X.calm = true) : CallR X (.type "list") (rList X.K) := crOr call_list_of (crOr (call_listD hc) (crOr (call_list_dT hc) (call_list_strH hc)))
theorem repL_isKeys {P : Addr → Prop} {H : Hp} : ∀ {kvs : List (List Key × V)} {bs : List Addr}, IsKeys H kvs bs → RepL P H (kvs.map fun q => .tup (q.1.map keyD)) (bs.map V.ref)
  | _, _, .nil => by simp only [List.map_nil, RepL]
  | _, _, .cons h t => by
    simp only [List.map_cons, RepL]
    refine ⟨_, _, rfl, ?_, repL_isKeys t⟩
    simp only [Rep]
    exact ⟨_, _, rfl, h, repL_keys _⟩
theorem listDD_ok {mg K} : RcOk mg (rList K) (op1 listDD) := rc1 fun P H x d v Q fr rx e k => by
  cases x with
  | dic t kvs =>
    simp only [listDD] at e
    cases e
    obtain ⟨a, ps, rfl, hh, hkv⟩ := rx.dic
    have hkeys := hkv.keys
    cases t with
    | false =>
      obtain ⟨kk, rd, rfl⟩ := hh
      refine .inr (.inl ⟨a, kk, rfl, rd, fun p hp => k _ _ (same_new hp) (rep_newL fr hp ?_) (topNew_ref hp)⟩)
      rw [hkeys, List.map_map]
      have := repL_keys (P := P) (H := H) (kk.map (·.1))
      rw [List.map_map, List.map_map] at this
      exact this
    | true =>
      obtain ⟨kk, rd, rfl⟩ := hh
      refine .inr (.inr (.inl ⟨a, kk, rfl, rd, fun p bs hp hb => k _ _ (same_new hp) (rep_newL fr hp ?_) (topNew_ref hp)⟩))
      rw [hkeys, List.map_map]
      exact repL_isKeys hb
  | str z =>
    simp only [listDD] at e
    split at e
    · rename_i hz
      cases e
      have rx : ∃ t, v = .str z := ⟨0, by simpa only [RepB, Rep] using rx⟩
      obtain ⟨_, rfl⟩ := rx
      exact .inr (.inr (.inr ⟨z, rfl, of_decide_eq_true hz, fun p hp => k _ _ (same_new hp) (rep_newL fr hp (RepL.chars _)) (topNew_ref hp)⟩))
    · cases e
  | lst xs =>
    have e : listD (.lst xs) = some d := e
    exact .inl (listD_ok (mg := mg) (K := K) P H [.lst xs] d [v] Q fr ⟨v, [], rfl, rx, rfl⟩ e k)
  | tup xs =>
    have e : listD (.tup xs) = some d := e
    exact .inl (listD_ok (mg := mg) (K := K) P H [.tup xs] d [v] Q fr ⟨v, [], rfl, rx, rfl⟩ e k)
  | _ => cases e
end RE
/-! RE13l: dict(a list of pairs): keys alone or tuples. -/
namespace RE
open PySem PySem.Spec PyProof.Rows L2

def mergeT (kvs more : List (List Key × V)) : List (List Key × V) := more.foldl (fun acc kv => putK acc kv.1 kv.2) kvs
theorem length_mergeT : ∀ (more kvs : List (List Key × V)), (mergeT kvs more).length ≤ kvs.length + more.length
  | [], kvs => by show kvs.length ≤ kvs.length + 0; omega
  | p :: r, kvs => by
    have h1 := length_mergeT r (putK kvs p.1 p.2)
    have h2 := length_putK kvs p.1 p.2
    show (mergeT (putK kvs p.1 p.2) r).length ≤ _
    rw [List.length_cons]; omega
/-- a pair's own place, with what stands in it: its key's place b, key ks, value v -/
def PairT (K : PySem.W.Frag) (H : Hp) (p : Addr) (z : (List Key × V) × Addr) : Prop := SqT K H p [.ref z.2, z.1.2] ∧ H z.2 = some (.tup (z.1.1.map kV))
section
variable {X : Cx}
theorem pairsT_of {pins : List (Addr × Obj)} {σ : L2.St} {H : Hp} {s : Shared} (I : Inv X pins σ H s) : ∀ {ps : List Addr} {zs : List ((List Key × V) × Addr)}, Paired (PairT X.K H) ps zs →
    ∃ prs : List (List Key × Addr × Value), KT H (zs.map (·.1)) prs ∧ prs.length = ps.length ∧ (∀ q ∈ prs, H q.2.1 = some (.tup (q.1.map kV))) ∧ ∀ (j : Nat) (q : List Key × Addr × Value), prs[j]? = some q → ∃ (b : Addr), ps[j]? = some b ∧ IsTup s.heap b #[.ref q.2.1, q.2.2]
  | _, _, .nil => ⟨[], .nil, rfl, fun _ h => (nomatch h), fun j q e => by simp at e⟩
  | _, _, .cons (a := p) (b := z) h t => by
    obtain ⟨prs, r, hl, hk, hp⟩ := pairsT_of I t
    obtain ⟨its, rv, ht, _⟩ := I.tuple h.1
    obtain ⟨u, y, ei, ru, ry⟩ := vals2 rv
    subst ei
    cases (show u = Value.ref z.2 from ru)
    refine ⟨(z.1.1, z.2, y) :: prs, .cons ⟨rfl, h.2, ry⟩ r, by rw [List.length_cons, List.length_cons, hl], fun q hq => ?_, fun j q e => ?_⟩
    · rcases List.mem_cons.mp hq with rfl | hq
      · exact h.2
      · exact hk q hq
    · cases j with
      | zero =>
        have e' : (z.1.1, z.2, y) = q := Option.some.inj e
        subst e'
        exact ⟨p, rfl, ht⟩
      | succ j =>
        obtain ⟨b, e1, e2⟩ := hp j q (by simpa using e)
        exact ⟨b, by simpa using e1, e2⟩
theorem KT.merge {H : Hp} : ∀ {more : List (List Key × V)} {rs : List (List Key × Addr × Value)} {kvs : List (List Key × V)} {vs : List (List Key × Addr × Value)}, KT H more rs → KT H kvs vs → KT H (mergeT kvs more) (storedAllH vs rs) := by
  intro more rs kvs vs r
  unfold KT at r
  induction r generalizing kvs vs with
  | nil => intro q; exact q
  | @cons p q ps qs h t ih =>
    intro g
    obtain ⟨e1, e2, e3⟩ := h
    show KT H (mergeT (putK kvs p.1 p.2) ps) (storedAllH (storedH vs q.1 q.2.1 q.2.2) qs)
    rw [← e1]
    exact ih (g.put p.1 e2 e3)
def rDictT (K : PySem.W.Frag) : List V → Hp → VK → Prop := fun xs H Q => ∃ (a : Addr) (ps : List Addr) (zs : List ((List Key × V) × Addr)), xs = [.ref a] ∧ SqL K H a (ps.map V.ref) ∧ Paired (PairT K H) ps zs ∧
    ∀ p, H p = none → Q (.ref p) (upd H p (.dT (mergeT [] (zs.map (·.1)))))
theorem cr_dictT (hcalm : X.calm = true) (hu : X.A.units + 128 < cLine) : CallR X (.type "dict") (rDictT X.K) := by
  intro pins s σ H xs us Q I r q
  obtain ⟨a, ps, zs, ex, hq, hp, q⟩ := q
  subst ex
  obtain ⟨u, eu, rx⟩ := vals1 r
  subst eu
  cases rx
  obtain ⟨its, rv, pl, hz⟩ := I.list hq
  have ei := refs_at rv
  subst ei
  rw [List.length_map] at hz
  obtain ⟨prs, rel, hl, hk, hpr⟩ := pairsT_of I hp
  obtain ⟨o, n, ho, hc, hd, hdat⟩ := pl
  have P := PairArg.list (prog := X.prog) (w := X.w) a (ps.map Value.ref).toArray (fun j => ps.getD j 0) (prs.map fun q => (Value.ref q.2.1, q.2.2))
  have hlen : (prs.map fun q => (Value.ref q.2.1, q.2.2)).length = prs.length := List.length_map _
  refine call_dict_pairsH (knd := tupleKind (mixKind X.prog X.w)) (ps := prs) P (I.ok.hd hcalm) ?_ ⟨⟨o, n, ho, hc, hd, hdat⟩, ?_, fun j k v e => ?_⟩ ⟨hlen.symm, fun i key v e => ?_⟩ (fun h' hk' x hx => ?_) (by rw [hlen, hl]; exact hz) fun h' tk hd' kp => ?_
  · show (X.A.in1.in1).units < cLine
    have e1 : (X.A.in1.in1).units ≤ X.A.units + 2 := Nat.le_refl _
    omega
  · simp [hl]
  · rw [List.getElem?_map] at e
    obtain ⟨q', e1, e2⟩ := Option.map_eq_some_iff.mp e
    obtain ⟨b, e3, e4⟩ := hpr j q' e1
    cases e2
    have e5 : ps.getD j 0 = b := by rw [List.getD_eq_getElem?_getD, e3]; rfl
    refine ⟨by simp [e3, e5], ?_⟩
    show PairAt _ (ps.getD j 0) _ _
    rw [e5]
    exact .inl e4
  · have e : (prs.map fun q => (Value.ref q.2.1, q.2.2))[i]? = some (key, v) := e
    rw [List.getElem?_map] at e
    obtain ⟨q', e1, e2⟩ := Option.map_eq_some_iff.mp e
    cases e2
    exact ⟨q'.1, q'.2.1, e1, rfl⟩
  · obtain ⟨o', its', n', g1, g2, g3, g4⟩ := key_of I.hok (hk x hx)
    exact ⟨o', its', n', hk' _ _ (Nat.ne_of_lt (Heap.lt_size g1)) (by simp) g1, g2, g3, g4⟩
  · have hm : (s.heap.objs.size == sysModules) = false := beq_eq_false_iff_ne.mpr (Nat.ne_of_gt I.big)
    have hlen2 : (mergeT [] (zs.map (·.1))).length ≤ sizeLine := by
      refine Nat.le_trans (length_mergeT _ []) ?_
      rw [List.length_nil, Nat.zero_add, Paired.length rel, hl]
      exact hz
    have nD : H s.heap.objs.size = none := I.hok.fresh (Nat.le_refl _)
    obtain ⟨q', es, ep, hq', h2, h3, h4, _, h5⟩ := hd'
    have rel2 : KT H (mergeT [] (zs.map (·.1))) (storedAllH [] prs) := KT.merge rel .nil
    refine ⟨.ref s.heap.objs.size, upd H s.heap.objs.size (.dT (mergeT [] (zs.map (·.1)))), I.laid (t' := tk) (fun b o e => kp b o (by simp) e) (Nat.le_refl _) (show ObjOk X.prog X.w _ _ _ (.dT (mergeT [] (zs.map (·.1)))) from ⟨hlen2, hm, _, rel2.keeps fun b ys e => ?_, q', es, ep, hq', h2, h3, h4, h5⟩), rfl, q _ nD⟩
    rw [upd_ne (fun z => by rw [z, nD] at e; cases e)]
    exact e
end
/-! ### the function of trees -/
def dAll (t : Bool) : List (D × D) → List D → Option (List (D × D))
  | acc, [] => some acc
  | acc, .tup [k, v] :: xs => (dput t acc k v).bind fun acc' => dAll t acc' xs
  | _, _ => none
def isKP : D → Bool
  | .tup [k, _] => (keyA k).isSome
  | _ => false
def dictD : D → Option D
  | .lst [] => some (.dic true [])
  | .lst (x :: xs) => if isKP x then (dAll false [] (x :: xs)).map (.dic false) else (dAll true [] (x :: xs)).map (.dic true)
  | _ => none
def rDict (K : PySem.W.Frag) : List V → Hp → VK → Prop := fun xs H Q => (∃ (a : Addr) (ps : List Addr) (kvs : List (Key × V)), xs = [.ref a] ∧ SqL K H a (ps.map V.ref) ∧ Paired (fun p kv => SqT K H p [kV kv.1, kv.2]) ps kvs ∧
    ∀ p, H p = none → Q (.ref p) (upd H p (.dK (mergeK [] kvs)))) ∨ rDictT K xs H Q
theorem cr_dict {X : Cx} (hc : X.calm = true) (hu : X.A.units + 128 < cLine) : CallR X (.type "dict") (rDict X.K) := crOr (call_dictP hc) (cr_dictT hc hu)
theorem dAll_K {K : PySem.W.Frag} {P : Addr → Prop} {H : Hp} : ∀ {xs : List D} {vs : List V} {acc res : List (D × D)} {kvs : List (Key × V)}, RepL P H xs vs → dAll false acc xs = some res → RepKV P H acc (kvs.map fun z => (keyD z.1, z.2)) →
    ∃ (ps : List Addr) (more : List (Key × V)), vs = ps.map V.ref ∧ Paired (fun p kv => SqT K H p [kV kv.1, kv.2]) ps more ∧ RepKV P H res ((mergeK kvs more).map fun z => (keyD z.1, z.2))
  | [], vs, acc, res, kvs, r, e, g => by
    simp only [RepL] at r
    subst r
    cases e
    exact ⟨[], [], rfl, .nil, g⟩
  | .tup [k, v] :: xs, vs, acc, res, kvs, r, e, g => by
    simp only [RepL] at r
    obtain ⟨w, ws, rfl, r1, r2⟩ := r
    simp only [dAll] at e
    obtain ⟨acc', e1, e2⟩ := Option.bind_eq_some_iff.mp e
    simp only [Rep, RepL] at r1
    obtain ⟨p, us, rfl, hp, u1, us1, e3, r3, u2, us2, e4, r4, e5⟩ := r1
    subst e5 e4 e3
    unfold dput at e1
    simp only at e1
    obtain ⟨q, e6, e7⟩ := Option.map_eq_some_iff.mp e1
    have ek := keyA_some e6
    subst ek
    have eu := rep_key e6 r3
    subst eu
    have g' := kv_put keyA keyD keyA_keyD q r4 g
    rw [e7] at g'
    obtain ⟨ps, more, rfl, h1, h2⟩ := dAll_K (K := K) (kvs := putK kvs q u2) r2 e2 g'
    exact ⟨p :: ps, (q, u2) :: more, rfl, .cons (SqT.of hp) h1, h2⟩
  | .non :: _, _, _, _, _, _, e, _ => by cases e
  | .bl _ :: _, _, _, _, _, _, e, _ => by cases e
  | .int _ :: _, _, _, _, _, _, e, _ => by cases e
  | .str _ :: _, _, _, _, _, _, e, _ => by cases e
  | .lst _ :: _, _, _, _, _, _, e, _ => by cases e
  | .dic _ _ :: _, _, _, _, _, _, e, _ => by cases e
  | .scr _ :: _, _, _, _, _, _, e, _ => by cases e
  | .fn _ :: _, _, _, _, _, _, e, _ => by cases e
  | .tup [] :: _, _, _, _, _, _, e, _ => by cases e
  | .tup [_] :: _, _, _, _, _, _, e, _ => by cases e
  | .tup (_ :: _ :: _ :: _) :: _, _, _, _, _, _, e, _ => by cases e
theorem dAll_T {K : PySem.W.Frag} {P : Addr → Prop} {H : Hp} : ∀ {xs : List D} {vs : List V} {acc res : List (D × D)} {kvs : List (List Key × V)}, RepL P H xs vs → dAll true acc xs = some res → RepKV P H acc (kvs.map fun z => (.tup (z.1.map keyD), z.2)) →
    ∃ (ps : List Addr) (zs : List ((List Key × V) × Addr)), vs = ps.map V.ref ∧ Paired (PairT K H) ps zs ∧ RepKV P H res ((mergeT kvs (zs.map (·.1))).map fun z => (.tup (z.1.map keyD), z.2))
  | [], vs, acc, res, kvs, r, e, g => by
    simp only [RepL] at r
    subst r
    cases e
    exact ⟨[], [], rfl, .nil, g⟩
  | .tup [k, v] :: xs, vs, acc, res, kvs, r, e, g => by
    simp only [RepL] at r
    obtain ⟨w, ws, rfl, r1, r2⟩ := r
    simp only [dAll] at e
    obtain ⟨acc', e1, e2⟩ := Option.bind_eq_some_iff.mp e
    simp only [Rep, RepL] at r1
    obtain ⟨p, us, rfl, hp, u1, us1, e3, r3, u2, us2, e4, r4, e5⟩ := r1
    subst e5 e4 e3
    unfold dput at e1
    simp only at e1
    obtain ⟨q, e6, e7⟩ := Option.map_eq_some_iff.mp e1
    have ek := keyT_some e6
    subst ek
    simp only [Rep] at r3
    obtain ⟨b, vs3, rfl, hb, r5⟩ := r3
    have := r5.keys
    subst this
    have g' := kv_put keyT (fun ks => .tup (ks.map keyD)) (fun ks => keysA_map ks) q r4 g
    rw [e7] at g'
    obtain ⟨ps, zs, rfl, h1, h2⟩ := dAll_T (K := K) (kvs := putK kvs q u2) r2 e2 g'
    exact ⟨p :: ps, ((q, u2), b) :: zs, rfl, .cons ⟨SqT.of hp, hb⟩ h1, h2⟩
  | .non :: _, _, _, _, _, _, e, _ => by cases e
  | .bl _ :: _, _, _, _, _, _, e, _ => by cases e
  | .int _ :: _, _, _, _, _, _, e, _ => by cases e
  | .str _ :: _, _, _, _, _, _, e, _ => by cases e
  | .lst _ :: _, _, _, _, _, _, e, _ => by cases e
  | .dic _ _ :: _, _, _, _, _, _, e, _ => by cases e
  | .scr _ :: _, _, _, _, _, _, e, _ => by cases e
  | .fn _ :: _, _, _, _, _, _, e, _ => by cases e
  | .tup [] :: _, _, _, _, _, _, e, _ => by cases e
  | .tup [_] :: _, _, _, _, _, _, e, _ => by cases e
  | .tup (_ :: _ :: _ :: _) :: _, _, _, _, _, _, e, _ => by cases e
theorem rep_newD {P : Addr → Prop} {H : Hp} {t : Bool} {p : Addr} {kvs : List (D × D)} {ps : List (D × V)} {o : HO} (fr : Fre P H) (hp : H p = none) (h : RepKV P H kvs ps) (hh : HD t (upd H p o) p ps) : Rep P (upd H p o) (.dic t kvs) (.ref p) := by
  simp only [Rep]
  exact ⟨p, ps, rfl, fr p hp, hh, h.same (same_new hp)⟩
theorem dictD_ok {mg K} : RcOk mg (rDict K) (op1 dictD) := rc1 fun P H x d v Q fr rx e k => by
  have caseT : ∀ (xs : List D) (kvs : List (D × D)) (vs : List V) (a : Addr), v = .ref a → H a = some (.lst vs) → RepL P H xs vs → dAll true [] xs = some kvs → d = .dic true kvs → rDictT K [v] H Q := by
    rintro xs kvs vs a rfl ha hv e1 rfl
    obtain ⟨ps, zs, rfl, h1, h2⟩ := dAll_T (K := K) (kvs := []) hv e1 (by simp [RepKV])
    refine ⟨a, ps, zs, rfl, SqL.of ha, h1, fun p hp => k _ _ (same_new hp) (rep_newD fr hp h2 ⟨_, .inl (upd_same), rfl⟩) (topNew_ref hp)⟩
  cases x with
  | lst xs =>
    simp only [RepB] at rx
    obtain ⟨a, vs, rfl, ha, hv⟩ := rx
    match xs, e with
    | [], e =>
      have e := Option.some.inj (show some (D.dic true []) = some d from e)
      exact .inr (caseT [] [] vs a rfl ha hv rfl e.symm)
    | x :: xs, e =>
      simp only [dictD] at e
      split at e
      · obtain ⟨kvs, e1, e2⟩ := Option.map_eq_some_iff.mp e
        subst e2
        obtain ⟨ps, more, rfl, h1, h2⟩ := dAll_K (K := K) (kvs := []) hv e1 (by simp [RepKV])
        exact .inl ⟨a, ps, more, rfl, SqL.of ha, h1, fun p hp => k _ _ (same_new hp) (rep_newD fr hp h2 ⟨_, .inl (upd_same), rfl⟩) (topNew_ref hp)⟩
      · obtain ⟨kvs, e1, e2⟩ := Option.map_eq_some_iff.mp e
        exact .inr (caseT (x :: xs) kvs vs a rfl ha hv e1 e2.symm)
  | _ => cases e
end RE
/-! RE14: defs by levels, calls. -/
namespace RE
open PySem PySem.Spec PyProof.Rows L2

/-- a def's parameters' kinds; nw: what it gives is new where it is a list or dict -/
structure Sig where
  ks : List Kind
  nw : Bool
/-- the promise of a def by the function of trees -/
def spF (mg : Str → Option Value) (pk : Sig) (F : Fn) (f : Str) : Sp := fun vs H Q _ => ∃ (P : Addr → Prop) (ds : List D) (d : D), Fre P H ∧ RepA mg P H pk.ks ds vs ∧ ds.length = pk.ks.length ∧ F f ds = some d ∧ ∀ v H', Same H H' → Rep P H' d v → (pk.nw = true → TopNew H d v) → Q v H'
structure Callee (X : Cx) (F : Fn) (f : Str) (pk : Sig) : Prop where
  ex : ∃ (a : Addr) (fd : FuncData) (ps : List Str) (k : Nat), FnOk X.prog X.w X.K X.mg X.base CX0 k a fd ps (spF X.mg pk F f) ∧ Room k X.A ∧ X.mg f = some (.ref a) ∧ PySem.W.keepIn X.K (.ref a) = true ∧ Binds X.K fd ps []
section
variable {X : Cx} {ks : Ks} {F : Fn} {pos : Pos}
theorem Callee.pe {f : Str} {pk : Sig} {p : Pos} {es : List Expr} {t : TA} (c : Callee X F f pk) (hg : Gl X f) (hdb : (f == ("__debug__" : Str)) = false) (hs : es.all noStar = true) (ha : PA X es t) : PE X (.Call (.Name f p) es [] pos) (tCall (spF X.mg pk F f) [] E0 (if es = [] then tNil else t)) := by
  obtain ⟨a, fd, ps, k, fo, hr, hm, hk, hb⟩ := c.ex
  cases es with
  | nil => exact pe_call0 fo hr hg hm hk hb .nil pass0 hdb
  | cons e es =>
    rw [List.all_cons, Bool.and_eq_true] at hs
    exact pe_call fo hr hg hm hk hb .nil pass0 ha hdb (starEach_cons (noStar_ne hs.1)) (backTo_any hs.2)
def cFn (f : Str) (g : SA) : SE := fun F ρ => (g F ρ).bind fun ds => F f ds
theorem evE_call {f : Str} {pk : Sig} {p : Pos} {es : List Expr} {g : SA} (c : Callee X F f pk) (hg : Gl X f) (hdb : (f == ("__debug__" : Str)) = false) (hs : es.all noStar = true) (hl : es.length = pk.ks.length) (hlen : ∀ F ρ ds, g F ρ = some ds → ds.length = es.length) (ha : EvA X ks F pk.ks es g) :
    EvE X ks F (.Call (.Name f p) es [] pos) (cFn f g) := by
  obtain ⟨t, pt, q⟩ := ha.ex
  refine ⟨_, c.pe hg hdb hs pt, fun σ H P ρ Q d fr er ev k => ?_⟩
  obtain ⟨ds, e1, e2⟩ := Option.bind_eq_some_iff.mp ev
  have fin : ∀ vs H1, Same H H1 → RepA X.mg P H1 pk.ks ds vs → spF X.mg pk F f (vs ++ []) H1 Q E0 := fun vs H1 s1 r1 => by
    rw [List.append_nil]
    exact ⟨P, ds, d, fr.same s1, r1, by rw [hlen F ρ ds e1, hl], e2, fun v H' s r _ => k v H' (s1.trans s) r⟩
  show (if es = [] then tNil else t) σ H (fun vs H1 => spF X.mg pk F f (vs ++ []) H1 Q E0)
  split
  · rename_i he
    subst he
    have hd : ds = [] := List.length_eq_zero_iff.mp (hlen F ρ ds e1)
    subst hd
    exact fin [] H (Same.refl H) rfl
  · exact q σ H P ρ _ ds fr er e1 fun vs H1 s1 r1 => fin vs H1 s1 r1
/-- no list, no dict within -/
def imm : D → Bool
  | .lst _ => false
  | .dic _ _ => false
  | .tup xs => immL xs
  | _ => true
where immL : List D → Bool
  | [] => true
  | d :: ds => imm d && immL ds
mutual
theorem Rep.imm {P P' : Addr → Prop} {H : Hp} : ∀ (d : D) (v : V), RE.imm d = true → Rep P H d v → Rep P' H d v
  | .non, v, _, h => by simpa only [Rep] using h
  | .bl b, v, _, h => by simpa only [Rep] using h
  | .int i, v, _, h => by simpa only [Rep] using h
  | .str x, v, _, h => by simpa only [Rep] using h
  | .tup ds, v, e, h => by
    simp only [Rep] at h ⊢
    simp only [RE.imm] at e
    obtain ⟨a, vs, e1, h1, h2⟩ := h
    exact ⟨a, vs, e1, h1, RepL.imm ds vs e h2⟩
  | .lst ds, v, e, h => by simp [RE.imm] at e
  | .dic t kvs, v, e, h => by simp [RE.imm] at e
  | .scr ns, v, _, h => by simpa only [Rep] using h
  | .fn f, v, _, h => by simpa only [Rep] using h
theorem RepL.imm {P P' : Addr → Prop} {H : Hp} : ∀ (ds : List D) (vs : List V), RE.imm.immL ds = true → RepL P H ds vs → RepL P' H ds vs
  | [], vs, _, h => by simpa only [RepL] using h
  | d :: ds, vs, e, h => by
    simp only [RE.imm.immL, Bool.and_eq_true] at e
    simp only [RepL] at h ⊢
    obtain ⟨v, r, e1, h1, h2⟩ := h
    exact ⟨v, r, e1, Rep.imm d v e.1 h1, RepL.imm ds r e.2 h2⟩
end
theorem RepB.imm {mg : Str → Option Value} {P P' : Addr → Prop} {H : Hp} {d : D} {v : V} (e : RE.imm d = true) (h : RepB mg P H d v) : RepB mg P' H d v := by
  cases d <;> simp only [RepB] at h ⊢ <;> first | exact h | exact Rep.imm _ _ e h | (simp [RE.imm] at e; done)
theorem RepA.imm {mg : Str → Option Value} {P P' : Addr → Prop} {H : Hp} : ∀ {pk : List Kind} {ds : List D} {vs : List V}, RE.imm.immL ds = true → RepA mg P H pk ds vs → RepA mg P' H pk ds vs
  | _, [], _, _, h => h
  | pk, d :: ds, vs, e, h => by
    simp only [RE.imm.immL, Bool.and_eq_true] at e
    obtain ⟨v, r, e1, h1, h2⟩ := h
    refine ⟨v, r, e1, ?_, RepA.imm e.2 h2⟩
    generalize pk.headD .F = z at h1 ⊢
    cases z with
    | F => exact Rep.imm _ _ e.1 h1
    | M => exact RepB.imm e.1 h1
    | L => exact RepB.imm e.1 h1
    | B => exact RepB.imm e.1 h1
/-- .. nothing given that could be changed: what it gives is new -/
def cFnN (f : Str) (g : SA) : SE := fun F ρ => (g F ρ).bind fun ds => if imm.immL ds = true then F f ds else none
theorem evN_call {f : Str} {pk : Sig} {p : Pos} {es : List Expr} {g : SA} (c : Callee X F f pk) (hg : Gl X f) (hdb : (f == ("__debug__" : Str)) = false) (hs : es.all noStar = true) (hl : es.length = pk.ks.length) (hlen : ∀ F ρ ds, g F ρ = some ds → ds.length = es.length) (ha : EvA X ks F pk.ks es g) :
    EvN X ks F (.Call (.Name f p) es [] pos) (cFnN f g) := by
  obtain ⟨t, pt, q⟩ := ha.ex
  refine ⟨_, c.pe hg hdb hs pt, fun σ H P ρ Q d fr er ev k => ?_⟩
  obtain ⟨ds, e1, e2⟩ := Option.bind_eq_some_iff.mp ev
  split at e2
  · rename_i hi
    have fin : ∀ vs H1, Same H H1 → RepA X.mg P H1 pk.ks ds vs → spF X.mg pk F f (vs ++ []) H1 Q E0 := fun vs H1 s1 r1 => by
      rw [List.append_nil]
      refine ⟨fun a => H1 a = none, ds, d, fun a h => h, RepA.imm hi r1, by rw [hlen F ρ ds e1, hl], e2, fun v H' s r _ => k v H' (s1.trans s) ⟨r.weak fun a h => fr.same s1 a h, ?_⟩⟩
      cases d <;> simp only [TopNew, Rep] at r ⊢
      · intro a ea
        obtain ⟨b, vs, eb, h, _⟩ := r
        rw [ea] at eb; cases eb
        exact s1.free h
      · intro a ea
        obtain ⟨b, vs, eb, h, _⟩ := r
        rw [ea] at eb; cases eb
        exact s1.free h
    show (if es = [] then tNil else t) σ H (fun vs H1 => spF X.mg pk F f (vs ++ []) H1 Q E0)
    split
    · rename_i he
      subst he
      have hd : ds = [] := List.length_eq_zero_iff.mp (hlen F ρ ds e1)
      subst hd
      exact fin [] H (Same.refl H) rfl
    · exact q σ H P ρ _ ds fr er e1 fun vs H1 s1 r1 => fin vs H1 s1 r1
  · cases e2
/-- .. a def that gives new things -/
theorem evN_callNew {f : Str} {pk : Sig} {p : Pos} {es : List Expr} {g : SA} (hn : pk.nw = true) (c : Callee X F f pk) (hg : Gl X f) (hdb : (f == ("__debug__" : Str)) = false) (hs : es.all noStar = true) (hl : es.length = pk.ks.length) (hlen : ∀ F ρ ds, g F ρ = some ds → ds.length = es.length) (ha : EvA X ks F pk.ks es g) :
    EvN X ks F (.Call (.Name f p) es [] pos) (cFn f g) := by
  obtain ⟨t, pt, q⟩ := ha.ex
  refine ⟨_, c.pe hg hdb hs pt, fun σ H P ρ Q d fr er ev k => ?_⟩
  obtain ⟨ds, e1, e2⟩ := Option.bind_eq_some_iff.mp ev
  have fin : ∀ vs H1, Same H H1 → RepA X.mg P H1 pk.ks ds vs → spF X.mg pk F f (vs ++ []) H1 Q E0 := fun vs H1 s1 r1 => by
    rw [List.append_nil]
    exact ⟨P, ds, d, fr.same s1, r1, by rw [hlen F ρ ds e1, hl], e2, fun v H' s r n => k v H' (s1.trans s) ⟨r, (n hn).back s1⟩⟩
  show (if es = [] then tNil else t) σ H (fun vs H1 => spF X.mg pk F f (vs ++ []) H1 Q E0)
  split
  · rename_i he
    subst he
    have hd : ds = [] := List.length_eq_zero_iff.mp (hlen F ρ ds e1)
    subst hd
    exact fin [] H (Same.refl H) rfl
  · exact q σ H P ρ _ ds fr er e1 fun vs H1 s1 r1 => fin vs H1 s1 r1
end

/-! ### defs -/
/-- what a def is, by trees: parameters' kinds, all slots' kinds, the number of slots, its body -/
structure DefS where
  np : Nat
  nn : Nat
  ks : Ks
  nw : Bool
  body : SS
def runD (d : DefS) (F : Fn) (ds : List D) : Option D := if ds.length = d.np then (d.body F (ds.map some ++ List.replicate (d.nn - ds.length) none)).bind fun r => match r with | .rt b v => if (d.nw && !b) = true then none else some v | .nx _ => some .non else none
/-- by levels -/
def lvl (T : Str → Option DefS) : Nat → Fn
  | 0 => fun _ _ => none
  | n + 1 => fun f ds => (T f).bind fun d => runD d (lvl T n) ds
/-- parameters are shared, or only looked at -/
def okPar (ks : Ks) (np : Nat) : Bool := (ks.take np).all fun k => decide (k = .F) || decide (k = .B)
theorem ER.start {mg : Str → Option Value} {P : Addr → Prop} {H : Hp} : ∀ {ks : Ks} {ds : List D} {vs : List V} {m : Nat}, RepA mg P H ks ds vs → ER mg P ks H (vs.map some ++ List.replicate m none) (ds.map some ++ List.replicate m none)
  | ks, [], vs, m, h => by
    rw [show vs = [] from h]
    refine ⟨by simp, fun i d e => ?_⟩
    rw [List.map_nil, List.nil_append, List.getElem?_replicate] at e
    split at e <;> cases e
  | ks, d :: ds, vs, m, h => by
    obtain ⟨v, r, rfl, h1, h2⟩ := h
    have ih := ER.start (m := m) h2
    refine ⟨by simpa using ih.1, fun i e q => ?_⟩
    cases i with
    | zero =>
      cases q
      refine ⟨v, rfl, ?_⟩
      cases ks with
      | nil => exact h1
      | cons k ks => exact h1
    | succ i =>
      obtain ⟨w, e1, r1⟩ := ih.2 i e (by simpa using q)
      refine ⟨w, by simpa using e1, ?_⟩
      cases ks with
      | nil => exact r1
      | cons k ks => exact r1
theorem RepA.kinds {mg : Str → Option Value} {P : Addr → Prop} {H : Hp} : ∀ {ks : Ks} {n : Nat} {ds : List D} {vs : List V}, ds.length = n → RepA mg P H (ks.take n) ds vs → RepA mg P H ks ds vs
  | _, _, [], _, _, h => h
  | ks, n, d :: ds, vs, hl, h => by
    obtain ⟨v, r, e, h1, h2⟩ := h
    subst hl
    refine ⟨v, r, e, ?_, ?_⟩
    · cases ks with
      | nil => exact h1
      | cons k ks => exact h1
    · cases ks with
      | nil => exact RepA.kinds (n := ds.length) rfl (by simpa using h2)
      | cons k ks => exact RepA.kinds (n := ds.length) rfl (by simpa using h2)
/-- at a def's entry -/
theorem SR.start {mg : Str → Option Value} {P : Addr → Prop} {H : Hp} {ks : Ks} {ds : List D} {vs : List V} {m : Nat} (fr : Fre P H) (hp : okPar ks ds.length = true) (h : RepA mg P H ks ds vs) : SR mg H P P ks H (vs.map some ++ List.replicate m none) (ds.map some ++ List.replicate m none) := by
  have kinds : ∀ i d, (ds.map some ++ List.replicate m none)[i]? = some (some d) → kd ks i = .F ∨ kd ks i = .B := fun i d e => by
    have hi : i < ds.length := by
      by_cases c : i < ds.length
      · exact c
      · rw [List.getElem?_append_right (by simpa using c), List.getElem?_replicate] at e
        split at e <;> cases e
    unfold kd
    rw [List.getD_eq_getElem?_getD]
    cases q : ks[i]? with
    | none => exact .inl rfl
    | some k =>
      unfold okPar at hp
      rw [List.all_eq_true] at hp
      have := hp k (by
        rw [List.mem_iff_getElem?]
        exact ⟨i, by rw [List.getElem?_take_of_lt hi]; exact q⟩)
      simpa using this
  have er := ER.start (m := m) h
  refine ⟨fr, fun _ p => p, fr, Same.refl H, er, fun i d hk e _ => ?_, fun i j d e a _ hi _ e1 => ?_, fun i d a hk e m s => ?_, fun i g hk e => ?_⟩
  · rcases kinds i d e with q | q <;> rw [q] at hk <;> rcases hk with z | z <;> cases z
  · rcases kinds i d e1 with q | q <;> rw [q] at hi <;> rcases hi with z | z <;> cases z
  · obtain ⟨v, e1, r⟩ := er.2 i d e
    rw [s] at e1; cases e1
    have rb := r.toB
    cases d <;> simp only [isMut] at m <;> first | (cases m; done) | skip
    · obtain ⟨b, vs, e, h1, _⟩ := rb.lst; cases e; rw [h1]; simp
    · obtain ⟨b, ps, e, h1, _⟩ := rb.dic; cases e; exact h1.some
  · rcases kinds i _ e with q | q <;> rw [q] at hk <;> rcases hk with z | z <;> cases z
theorem fnOk_none {P : Program} {w : World} {K : PySem.W.Frag} {mg : Str → Option Value} {base : Heap} {k : Nat} {a : Addr} {fd : FuncData} {ps : List Str} {pk : Sig} {f : Str} {F : Fn} (h : ∀ ds, F f ds = none) : FnOk P w K mg base CX0 k a fd ps (spF mg pk F f) :=
  ⟨(fun vs H Q E ⟨_, ds, d, _, _, _, e, _⟩ => by rw [h ds] at e; cases e), fun _ _ _ _ _ _ _ _ _ _ _ _ _ ⟨_, ds, d, _, _, _, e, _⟩ => by rw [h ds] at e; cases e⟩
/-- a def's promise at the next level -/
theorem fnOk_succ {P : Program} {w : World} {K : PySem.W.Frag} {mg : Str → Option Value} {base : Heap} {k n : Nat} {x : Str} {f : Addr} {fd : FuncData} {N ps : List Str} {T : Str → Option DefS} {d : DefS} (hd : T x = some d) {params : Arguments} {stb : List Stmt} {sc : Scope} (F : FunD K x x params stb sc [] [] f fd) (S : FnScope N ps sc) (hnp : d.np = ps.length) (hnn : d.nn = N.length) (hpar : okPar d.ks d.np = true) (hks : (d.ks.take d.np).length = d.np)
    (hb : ∀ (cdv : Value) (A : Around) (outer : List PySem.Env) (s : Shared) (H : Hp) (E : XK), Room k (A.deeper (envOfC x sc s.heap.objs.size f cdv)) → EvSs (cxOf CX0 P w K mg base N x sc f cdv A outer s H E).nox d.ks (lvl T n) stb d.body) :
    FnOk P w K mg base CX0 (k + 1) f fd ps (spF mg ⟨d.ks.take d.np, d.nw⟩ (lvl T (n + 1)) x) := by
  refine F.ok S (fun vs H Q E ⟨_, ds, dd, _, r, hl, _, _⟩ => by rw [r.length, hl, hks, hnp]) fun cdv A outer s H vs Q E hr ⟨P0, ds, dd, fr, r, hl, ev, kk⟩ => ?_
  obtain ⟨t, pt, q⟩ := (hb cdv A outer s H E hr).ex
  have hl2 : ds.length = d.np := by rw [hl, hks]
  simp only [lvl] at ev
  rw [hd] at ev
  simp only [Option.bind_some, runD] at ev
  rw [if_pos hl2] at ev
  obtain ⟨res, e1, e2⟩ := Option.bind_eq_some_iff.mp ev
  refine ⟨t, PSs.nox pt, ?_⟩
  have r' : RepA mg P0 H d.ks ds vs := RepA.kinds hl2 r
  have sr : SR mg H P0 P0 d.ks H (L2.start N vs) (ds.map some ++ List.replicate (d.nn - ds.length) none) := by
    unfold L2.start
    rw [r.length, ← hnn]
    exact SR.start fr (by rw [hl2]; exact hpar) r'
  refine q H P0 P0 H _ _ _ res sr e1 ?_
  cases res with
  | nx ρ' =>
    cases e2
    exact fun P' σ' H' sr' fm => kk .non H' sr'.keep (by simp only [Rep]) fun _ => trivial
  | rt b v =>
    simp only at e2
    split at e2
    · cases e2
    · rename_i hb
      cases e2
      refine fun v H' s r n => kk v H' s r fun hn => n ?_
      have hn : d.nw = true := hn
      rw [hn] at hb
      simpa using hb
end RE
/-! RE15: what is known of a context; operators and built-ins by name. -/
namespace RE
open PySem PySem.Spec PyProof.Rows L2

/-- the text's defs (their parameters' kinds), constants, and the built-ins' names it does not shadow -/
structure Tab where
  fns : List (Str × Sig)
  glb : List (Str × D)
  blt : List Str
  /-- dicts whose keys are tuples, dicts that are walked: by a def's slots and the name -/
  dT : List (List Str × Str) := []
  dN : List (List Str × Str) := []
def Tab.tk (T : Tab) (N : List Str) (x : Str) : Bool := T.dT.any fun p => decide (p.1 = N) && decide (p.2 = x)
def Tab.dn (T : Tab) (N : List Str) (x : Str) : Bool := T.dN.any fun p => decide (p.1 = N) && decide (p.2 = x)
/-- a block: its slots, its scope; all: a def's own block; raw: a comprehension's names as written -/
structure SC where
  N : List Str
  scope : Scope
  all : Bool
  raw : List (Str × NameKind)
  nw : Bool
def SC.sto (c : SC) (x : Str) : Bool := c.all || decide (c.raw.lookup x = some .local) || decide (c.raw.lookup x = some .cell)
structure XOk (T : Tab) (c : SC) (X : Cx) (F : Fn) : Prop where
  hN : X.N = c.N
  nd : c.N.Nodup
  sc : X.env.scope = c.scope
  calm : X.calm = true
  own : PassesOwn (model X.prog X.w) X.A X.env X.xe
  un : X.A.units + 128 < cLine
  kind : c.scope.kind = .function
  sto : ∀ x, c.sto x = true → X.fn x = true ∨ X.env.scope.names.lookup x = some .local
  fns : ∀ f pk, T.fns.lookup f = some pk → Callee X F f pk
  glb : ∀ x d, T.glb.lookup x = some d → ∃ v u, constV d = some v ∧ X.mg x = some u ∧ RelV v u
  blt : ∀ x, x ∈ T.blt → X.mg x = none
/-- a comprehension's scope within a block's -/
def relS (scope sc : Scope) : Scope := { scope with names := scope.names.map fun (n, k) => if (k == .free && sc.kind == .function && sc.names.lookup n == some .cell) then (n, .cell) else (n, k) }
def SC.blk (c : SC) (scope : Scope) : SC := ⟨c.N, relS scope c.scope, false, scope.names, c.nw⟩
theorem XOk.blk {T : Tab} {c : SC} {X : Cx} {F : Fn} (h : XOk T c X F) {scope : Scope} (hk : scope.kind = .function) (s : Shared) (H : Hp) (C : Addr) (cl : List (Str × Addr)) (fp : List Addr) : XOk T (c.blk scope) (X.blk s H scope (compEnvC scope cl C X.env) fp) F where
  hN := h.hN
  nd := h.nd
  sc := by
    show relabel scope X.env = relS scope c.scope
    rw [← h.sc]
    rfl
  calm := h.calm
  own := PassesOwn.never
  un := h.un
  kind := hk
  sto := fun x hx => by
    unfold SC.sto SC.blk at hx
    simp only [Bool.false_or, Bool.or_eq_true, decide_eq_true_eq] at hx
    rcases hx with q | q
    · right
      show (relabel scope X.env).names.lookup x = some .local
      exact lookup_relabel_local q
    · left
      show (scope.names.lookup x == some .cell) = true
      rw [q]; rfl
  fns := fun f pk e => by
    obtain ⟨a, fd, ps, k, h1, h2, h3, h4, h5⟩ := (h.fns f pk e).ex
    exact ⟨a, fd, ps, k, h1, h2, h3, h4, h5⟩
  glb := h.glb
  blt := h.blt

/-! ### names -/
def SC.vis (c : SC) (x : Str) : Bool := decide (c.scope.names.lookup x = some .local) || decide (c.scope.names.lookup x = some .cell) || decide (c.scope.names.lookup x = some .free)
def SC.loc (c : SC) (x : Str) : Bool := decide (c.scope.names.lookup x = some .local) || decide (c.scope.names.lookup x = some .cell)
def SC.gl (c : SC) (x : Str) : Bool := decide (c.scope.names.lookup x = some .globalImplicit)
def SC.ix (c : SC) (x : Str) : Option Nat := c.N.findIdx? fun y => decide (y = x)
def plainName (x : Str) : Bool := !(x == ("__debug__" : Str)) && !(x == ("__classdict__" : Str)) && !decide (x = "__name__")
section
variable {T : Tab} {c : SC} {X : Cx} {F : Fn} {x : Str}
theorem XOk.vis (h : XOk T c X F) (e : c.vis x = true) : Vis X.env.scope x := by
  unfold SC.vis at e
  rw [h.sc]
  simp only [Bool.or_eq_true, decide_eq_true_eq] at e
  rcases e with (e | e) | e
  · exact .inl e
  · exact .inr (.inl e)
  · exact .inr (.inr e)
theorem XOk.loc (h : XOk T c X F) (e : c.loc x = true) : Loc X.env.scope x := by
  unfold SC.loc at e
  rw [h.sc]
  unfold L2.Loc
  simpa using e
theorem XOk.gl (h : XOk T c X F) (e : c.gl x = true) : Gl X x := by
  unfold SC.gl at e
  show X.env.scope.names.lookup x = _
  rw [h.sc]
  simpa using e
theorem XOk.ix (h : XOk T c X F) {i : Nat} (e : c.ix x = some i) : X.N[i]? = some x := by
  rw [h.hN]
  unfold SC.ix at e
  obtain ⟨hi, p, _⟩ := List.findIdx?_eq_some_iff_getElem.mp e
  rw [List.getElem?_eq_getElem hi]
  exact congrArg some (of_decide_eq_true p)
theorem XOk.nodup (h : XOk T c X F) : X.N.Nodup := by rw [h.hN]; exact h.nd
theorem plain_d (h : plainName x = true) : (x == ("__debug__" : Str)) = false := by
  unfold plainName at h
  simp only [Bool.and_eq_true, Bool.not_eq_true'] at h
  exact h.1.1
theorem plain_c (h : plainName x = true) : (x == ("__classdict__" : Str)) = false := by
  unfold plainName at h
  simp only [Bool.and_eq_true, Bool.not_eq_true'] at h
  exact h.1.2
theorem plain_n (h : plainName x = true) : x ≠ "__name__" := by
  unfold plainName at h
  simp only [Bool.and_eq_true, Bool.not_eq_true', decide_eq_false_iff_not] at h
  exact h.2
end

/-! ### operators -/
abbrev OpF (b : Value → Value → Sem Value) := { o : D → D → Option D // ∀ X : Cx, X.A.units + 128 < cLine → ∃ r, OpR X b r ∧ R2Ok X.mg r o }
def binF : (op : Operator) → Option (OpF (binaryOp op))
  | .Add => some ⟨addD, fun X h => ⟨_, op_addD, addD_ok⟩⟩
  | .Sub => some ⟨subD, fun X h => ⟨_, op_sub, subD_ok⟩⟩
  | .Mult => some ⟨mulD, fun X h => ⟨_, op_mulD, mulD_ok⟩⟩
  | .Mod => some ⟨modD, fun X h => ⟨_, op_modN, modD_ok⟩⟩
  | .FloorDiv => some ⟨fdivD, fun X h => ⟨_, op_fdivA, fdivD_ok⟩⟩
  | .Pow => some ⟨powD, fun X h => ⟨_, op_pow, powD_ok⟩⟩
  | _ => none
def cmpF : (op : CmpOp) → Option (OpF (compareOp op))
  | .Eq => some ⟨eqD, fun X h => ⟨_, op_eqP (by omega), eqD_ok⟩⟩
  | .NotEq => some ⟨neD, fun X h => ⟨_, op_neP (by omega), neD_ok⟩⟩
  | .Lt => some ⟨ltD, fun X h => ⟨_, op_ltP (by omega), ltD_ok⟩⟩
  | .LtE => some ⟨leD, fun X h => ⟨_, op_leP (by omega), leD_ok⟩⟩
  | .Gt => some ⟨gtD, fun X h => ⟨_, op_gtP (by omega), gtD_ok⟩⟩
  | .GtE => some ⟨geD, fun X h => ⟨_, op_geP (by omega), geD_ok⟩⟩
  | .Is => some ⟨isD, fun X h => ⟨_, op_isD, isD_ok⟩⟩
  | .IsNot => some ⟨isntD, fun X h => ⟨_, op_isntD, isntD_ok⟩⟩
  | _ => none
/-- a built-in called by its name -/
structure BF where
  x : Str
  n : Nat
  val : Value
  op : List D → Option D
  ok : ∀ X : Cx, X.calm = true → X.A.units + 128 < cLine → (∃ id r, val = .builtin id ∧ CallR X (.builtin id) r ∧ RcOk X.mg r op) ∨ ∃ U r, val = .type U ∧ CallR X (.type U) r ∧ RcOk X.mg r op
  hv : bootBuiltins x = some val
noncomputable def bfs : List BF := [
  ⟨"len", 1, .builtin "len", op1 lenD, fun X _ hu => .inl ⟨_, _, rfl, call_lenD2, lenD_ok⟩, by decide +kernel⟩,
  ⟨"abs", 1, .builtin "abs", op1 absD, fun X _ hu => .inl ⟨_, _, rfl, call_abs, absD_ok⟩, by decide +kernel⟩,
  ⟨"max", 2, .builtin "max", op2 max2D, fun X h hu => .inl ⟨_, _, rfl, call_max2 h, max2D_ok⟩, by decide +kernel⟩,
  ⟨"min", 2, .builtin "min", op2 min2D, fun X h hu => .inl ⟨_, _, rfl, call_min2 h, min2D_ok⟩, by decide +kernel⟩,
  ⟨"max", 1, .builtin "max", op1 max1D, fun X h hu => .inl ⟨_, _, rfl, cr_max h, max1D_ok⟩, by decide +kernel⟩,
  ⟨"min", 1, .builtin "min", op1 min1D, fun X h hu => .inl ⟨_, _, rfl, cr_min h, min1D_ok⟩, by decide +kernel⟩,
  ⟨"sorted", 1, .builtin "sorted", op1 sortedD, fun X h hu => .inl ⟨_, _, rfl, cr_sortD hu, sortedD_ok⟩, by decide +kernel⟩,
  ⟨"any", 1, .builtin "any", op1 anyD, fun X h hu => .inl ⟨_, _, rfl, cr_any h, anyD_ok⟩, by decide +kernel⟩,
  ⟨"all", 1, .builtin "all", op1 allD, fun X h hu => .inl ⟨_, _, rfl, cr_all h, allD_ok⟩, by decide +kernel⟩,
  ⟨"sum", 1, .builtin "sum", op1 sumD, fun X h hu => .inl ⟨_, _, rfl, cr_sum h, sumD_ok⟩, by decide +kernel⟩,
  ⟨"int", 1, .type "int", op1 int1D, fun X h hu => .inr ⟨_, _, rfl, call_int1, int1D_ok⟩, by decide +kernel⟩,
  ⟨"bool", 1, .type "bool", op1 bool1D, fun X h hu => .inr ⟨_, _, rfl, call_bool1, bool1D_ok⟩, by decide +kernel⟩,
  ⟨"list", 1, .type "list", op1 listDD, fun X h hu => .inr ⟨_, _, rfl, cr_list h, listDD_ok⟩, by decide +kernel⟩,
  ⟨"dict", 1, .type "dict", op1 dictD, fun X h hu => .inr ⟨_, _, rfl, cr_dict h hu, dictD_ok⟩, by decide +kernel⟩,
  ⟨"tuple", 1, .type "tuple", op1 tupleD, fun X h hu => .inr ⟨_, _, rfl, call_tuple_of, tupleD_ok⟩, by decide +kernel⟩]
theorem evN_bf {T : Tab} {c : SC} {X : Cx} {F : Fn} {ks : Ks} (ok : XOk T c X F) (b : BF) {p pos : Pos} {e : Expr} {es : List Expr} {g : SA} (hg : c.gl b.x = true) (hb : b.x ∈ T.blt) (hp : plainName b.x = true) (hs : (e :: es).all noStar = true) (ha : EvA X ks F [.B, .B, .B, .B] (e :: es) g) :
    EvN X ks F (.Call (.Name b.x p) (e :: es) [] pos) (cCall b.op g) := by
  have hv := b.hv
  rcases b.ok X ok.calm ok.un with ⟨id, r, e1, h1, h2⟩ | ⟨U, r, e1, h1, h2⟩
  · rw [e1] at hv
    exact evN_callB h1 h2 (ok.gl hg) (ok.blt _ hb) hv (plain_n hp) (plain_d hp) hs ha
  · rw [e1] at hv
    exact evN_callT h1 h2 (ok.gl hg) (ok.blt _ hb) hv (plain_n hp) (plain_d hp) hs ha
end RE
/-! RE16: from the text to functions of trees, with the proof that they tell what is computed: expressions. -/
namespace RE
open PySem PySem.Spec PyProof.Rows L2

/-! ### own slots that are not changed for now -/
def demote (is : List Nat) : Nat → Ks → Ks
  | _, [] => []
  | i, k :: ks => (if (decide (k = .M) && is.contains i) = true then .L else k) :: demote is (i + 1) ks
theorem dem_demote (is : List Nat) : ∀ (ks : Ks) (i : Nat), Dem ks (demote is i ks)
  | [], i, j => .inl rfl
  | k :: ks, i, j => by
    cases j with
    | zero =>
      show kd ((if (decide (k = .M) && is.contains i) = true then Kind.L else k) :: _) 0 = _ ∨ _
      by_cases h : (decide (k = .M) && is.contains i) = true
      · right
        have hm : k = .M := by
          rw [Bool.and_eq_true] at h
          exact of_decide_eq_true h.1
        subst hm
        exact ⟨rfl, by unfold demote; rw [if_pos h]; rfl⟩
      · left
        unfold demote; rw [if_neg h]; rfl
    | succ j => exact dem_demote is ks (i + 1) j
def setF (is : List Nat) : Nat → Ks → Ks
  | _, [] => []
  | i, k :: ks => (if is.contains i = true then .F else k) :: setF is (i + 1) ks
theorem kd_setF (is : List Nat) : ∀ (ks : Ks) (i j : Nat), i + j ∉ is → kd (setF is i ks) j = kd ks j
  | [], i, j, _ => rfl
  | k :: ks, i, j, h => by
    cases j with
    | zero =>
      unfold setF
      have : is.contains i = false := by simpa using h
      rw [this]; rfl
    | succ j =>
      have := kd_setF is ks (i + 1) j (by rw [Nat.add_assoc, Nat.add_comm 1 j]; exact h)
      exact this
section
variable {X : Cx} {ks ks' : Ks} {F : Fn} {e : Expr} {f : SE}
theorem ER.undem {mg : Str → Option Value} {P : Addr → Prop} {H : Hp} {σ : L2.St} {ρ : RE.Env} (dm : Dem ks ks') (h : ER mg P ks H σ ρ) : ER mg P ks' H σ ρ := ⟨h.1, fun i d e => by
  obtain ⟨v, e1, r⟩ := h.2 i d e
  refine ⟨v, e1, ?_⟩
  rcases dm i with q | ⟨q1, q2⟩
  · rw [q]; exact r
  · rw [q2]; rw [q1] at r; exact r⟩
theorem EvNS.undem (dm : Dem ks ks') (h : EvNS X ks' F e f) : EvNS X ks F e f := by
  obtain ⟨t, p, q⟩ := h.ex
  exact ⟨t, p, fun σ H P ρ Q d fr er ev k => q σ H P ρ Q d fr (er.undem dm) ev k⟩
theorem EvNL.undem (dm : Dem ks ks') (h : EvNL X ks' F e f) : EvNL X ks F e f := by
  obtain ⟨t, p, q⟩ := h.ex
  exact ⟨t, p, fun σ H P ρ Q d fr er ev k => q σ H P ρ Q d fr (er.undem dm) ev k⟩
end

/-! ### which stores are exchanged -/
def swB (c : SC) (e : Expr) (x : Str) (p : Pos) : Bool :=
  match e with
  | .ListComp _ _ s q => decide (c.scope.names.lookup x = some .local) && p.line == q.line && !(s.names.any fun (n, k) => n == x && (k == .local || k == .cell))
  | .SetComp _ _ s q => decide (c.scope.names.lookup x = some .local) && p.line == q.line && !(s.names.any fun (n, k) => n == x && (k == .local || k == .cell))
  | .DictComp _ _ _ s q => decide (c.scope.names.lookup x = some .local) && p.line == q.line && !(s.names.any fun (n, k) => n == x && (k == .local || k == .cell))
  | _ => false
section
variable {T : Tab} {c : SC} {X : Cx} {F : Fn}
theorem XOk.block (ok : XOk T c X F) : X.env.blockKind = .function := by
  unfold PySem.Env.blockKind
  rw [ok.sc, ok.kind]
  rfl
theorem beq_dec (a : Option NameKind) (b : Option NameKind) : (a == b) = decide (a = b) := by
  by_cases h : a = b
  · subst h; simp
  · rw [decide_eq_false h]
    exact beq_false_of_ne h
theorem swap_name (ok : XOk T c X F) (e : Expr) (x : Str) (p : Pos) (line : Nat) : swapsWith e (some (.Name x p)) line X.env = pure (swB c e x p) := by
  have hb : (X.env.blockKind == ScopeKind.function) = true := by rw [ok.block]; rfl
  have hk : X.env.kindOf x = c.scope.names.lookup x := by
    unfold PySem.Env.kindOf
    rw [ok.sc]
  cases e <;> first | rfl | skip
  all_goals
    unfold swapsWith swB
    simp only [hb, hk, Bool.true_and, beq_dec]
    rfl
theorem swap_other {tg : Expr} (h : ∀ x p, tg ≠ .Name x p) (e : Expr) (line : Nat) (env : PySem.Env) : swapsWith e (some tg) line env = pure false := by
  cases e <;> first | rfl | (cases tg <;> first | rfl | exact absurd rfl (h _ _))
def swS (c : SC) (ts vs : List Expr) : Option (Option (List Str)) :=
  if !(ts.length == 2 || ts.length == 3) || vs.length != ts.length then some none
  else if !(vs.all noStar) then some none
  else
    let line := (ts.head?.map (·.pos.line)).getD 0
    let names := ts.filterMap fun
      | .Name id pos => if decide (c.scope.names.lookup id = some .local) && pos.line == line then some id else none
      | _ => none
    if names.length != ts.length || names.eraseDups.length != names.length then some none
    else if vs.all (foldedForSure 8) then some none
    else if vs.all (constantsAlone 8) then none
    else some (some names)
theorem any_star : ∀ vs : List Expr, (vs.any fun | .Starred .. => true | _ => false) = !(vs.all noStar)
  | [] => rfl
  | v :: vs => by
    rw [List.any_cons, List.all_cons, any_star vs, Bool.not_and]
    cases v <;> rfl
theorem swS_ok (ok : XOk T c X F) {ts vs : List Expr} {o : Option (List Str)} {k k2 : Nat} {p p2 : Pos} (h : swS c ts vs = some o) : swappedStores [.Tuple ts k p] (.Tuple vs k2 p2) X.env = pure o := by
  have hb : (X.env.blockKind != ScopeKind.function) = false := by rw [ok.block]; rfl
  have hk : ∀ x, X.env.kindOf x = c.scope.names.lookup x := fun x => by
    unfold PySem.Env.kindOf
    rw [ok.sc]
  unfold swappedStores
  unfold swS at h
  dsimp only at h ⊢
  rw [hb, Bool.or_false]
  simp only [hk, beq_dec]
  by_cases c1 : (!(ts.length == 2 || ts.length == 3) || vs.length != ts.length) = true
  · rw [if_pos c1] at h ⊢
    cases h; rfl
  · rw [if_neg c1] at h ⊢
    by_cases c2 : (!(vs.all noStar)) = true
    · rw [if_pos c2] at h
      cases h
      exact if_pos ((any_star vs).trans c2)
    · rw [if_neg c2] at h
      refine Eq.trans (if_neg fun z => c2 ((any_star vs).symm.trans z)) ?_
      split at h
      · rename_i c3
        cases h
        exact if_pos c3
      · rename_i c3
        refine Eq.trans (if_neg c3) ?_
        split at h
        · rename_i c4
          cases h
          exact if_pos c4
        · rename_i c4
          refine Eq.trans (if_neg c4) ?_
          split at h
          · cases h
          · rename_i c5
            cases h
            exact if_neg c5
theorem sw_name {x : Str} {p : Pos} (e : Expr) (env : PySem.Env) : swappedStores [.Name x p] e env = pure none := by cases e <;> rfl
theorem sw_sub {a b : Expr} {p : Pos} (e : Expr) (env : PySem.Env) : swappedStores [.Subscript a b p] e env = pure none := by cases e <;> rfl
def notTup : Expr → Bool
  | .Tuple _ _ _ => false
  | _ => true
theorem sw_tup {ts : List Expr} {k : Nat} {p : Pos} {e : Expr} (h : notTup e = true) (env : PySem.Env) : swappedStores [.Tuple ts k p] e env = pure none := by cases e <;> first | rfl | cases h
end
end RE
/-! RE17: expressions, with their proofs. -/
namespace RE
open PySem PySem.Spec PyProof.Rows L2

abbrev CN (T : Tab) (c : SC) (ks : Ks) (e : Expr) := Option { f : SE // ∀ X F, XOk T c X F → EvN X ks F e f }
abbrev CNS (T : Tab) (c : SC) (ks : Ks) (e : Expr) := Option { f : SE // ∀ X F, XOk T c X F → EvNS X ks F e f }
abbrev CE (T : Tab) (c : SC) (ks : Ks) (e : Expr) := Option { f : SE // ∀ X F, XOk T c X F → EvE X ks F e f }
abbrev CP (T : Tab) (c : SC) (ks : Ks) (e : Expr) := Option { f : SE // ∀ X F, XOk T c X F → EvP X ks F e f }
abbrev CT (T : Tab) (c : SC) (ks : Ks) (e : Expr) := Option { f : SB // ∀ X F, XOk T c X F → EvT X ks F e f }
abbrev CW (T : Tab) (c : SC) (ks : Ks) (e : Expr) := Option { f : SB // ∀ X F, XOk T c X F → EvW X ks F e f }
abbrev CA (T : Tab) (c : SC) (ks : Ks) (pk : List Kind) (es : List Expr) := Option { g : SA // (∀ F ρ ds, g F ρ = some ds → ds.length = es.length) ∧ ∀ X F, XOk T c X F → EvA X ks F pk es g }
abbrev CI (T : Tab) (c : SC) (ks : Ks) (tg e : Expr) := Option { f : SL // ∀ X F, XOk T c X F → EvI X ks F tg e f }
abbrev CQ (T : Tab) (c : SC) (ks : Ks) (e : Expr) := Option { f : SE // ∀ X F, XOk T c X F → EvQ X ks F e f }
abbrev CG (T : Tab) (c : SC) (ks : Ks) (tg : Expr) := Option { p : List Nat × SG // (∀ X F, XOk T c X F → EvG X ks tg p.1 p.2) ∧ Touches p.2 p.1 ∧ ∀ j ∈ p.1, kd ks j = .F }
abbrev CGs (T : Tab) (c : SC) (ks : Ks) (tgs : List Expr) := Option { p : List Nat × SGs // (∀ X F, XOk T c X F → EvGs X ks tgs p.1 p.2) ∧ TouchesL p.2 p.1 ∧ Takes p.2 tgs.length ∧ ∀ j ∈ p.1, kd ks j = .F }
structure Rec (T : Tab) where
  n : ∀ c ks e, CN T c ks e
  s : ∀ c ks e, CNS T c ks e
  e : ∀ c ks e, CE T c ks e
  p : ∀ c ks e, CP T c ks e
  t : ∀ c ks e, CT T c ks e
  i : ∀ c ks tg e, CI T c ks tg e
section
variable {T : Tab} (r : Rec T) (c : SC) (ks : Ks)
theorem cCons_len {f : SE} {g : SA} {es : List Expr} {e : Expr} (h : ∀ F ρ ds, g F ρ = some ds → ds.length = es.length) : ∀ F ρ ds, cCons f g F ρ = some ds → ds.length = (e :: es).length := fun F ρ ds ev => by
  obtain ⟨d, e1, ev⟩ := Option.bind_eq_some_iff.mp ev
  obtain ⟨ds', e2, ev⟩ := Option.bind_eq_some_iff.mp ev
  cases ev
  rw [List.length_cons, List.length_cons, h F ρ ds' e2]
def compA : (pk : List Kind) → (es : List Expr) → CA T c ks pk es
  | pk, [] => some ⟨cNil, fun F ρ ds e => by cases e; rfl, fun X F ok => evA_nil⟩
  | pk, e :: es => if hs : noStar e = true then
      if hk : pk.headD .F = .F then (r.e c ks e).bind fun f => (compA pk.tail es).map fun g => ⟨cCons f.1 g.1, cCons_len g.2.1, fun X F ok => evA_consE hk hs (f.2 X F ok) (g.2.2 X F ok)⟩
      else (r.p c ks e).bind fun f => (compA pk.tail es).map fun g => ⟨cCons f.1 g.1, cCons_len g.2.1, fun X F ok => evA_consP hk hs (f.2 X F ok) (g.2.2 X F ok)⟩
    else none
mutual
def compG : Nat → (tg : Expr) → CG T c ks tg
  | 0, _ => none
  | n + 1, .Name x pos => match hi : c.ix x with
    | some i => if h : c.loc x = true ∧ c.sto x = true ∧ kd ks i = .F then
        some ⟨([i], gN i), fun X F ok => evG_name ok.nodup (ok.ix hi) (ok.loc h.1) h.2.2 (ok.sto x h.2.1), touches_name, fun j hj => by rw [List.mem_singleton.mp hj]; exact h.2.2⟩
      else none
    | none => none
  | n + 1, .Tuple ts k pos => if h : ts.all noStar = true then (compGs n ts).map fun p => ⟨(p.1.1, gT p.1.2), fun X F ok => evG_tup ok.calm h p.2.2.2.1 (p.2.1 X F ok), touches_tup p.2.2.1, p.2.2.2.2⟩ else none
  | _, _ => none
def compGs : Nat → (tgs : List Expr) → CGs T c ks tgs
  | 0, _ => none
  | n + 1, [] => some ⟨([], gsNil), fun X F ok => evGs_nil, touches_nil, takes_nil, fun j hj => by cases hj⟩
  | n + 1, t :: ts => if h : noStar t = true then (compG n t).bind fun p => (compGs n ts).map fun q => ⟨(p.1.1 ++ q.1.1, gsCons p.1.2 q.1.2), fun X F ok => evGs_cons h (p.2.1 X F ok) (q.2.1 X F ok), touches_cons p.2.2.1 q.2.2.1, takes_cons q.2.2.2.1, fun j hj => (List.mem_append.mp hj).elim (p.2.2.2 j) (q.2.2.2.2 j)⟩ else none
end
def compQ : (e : Expr) → CQ T c ks e
  | .Name x pos => match hi : c.ix x with
    | some i => if h : c.vis x = true ∧ plainName x = true then
        if hk : kd ks i = .L ∨ kd ks i = .B then some ⟨cV i, fun X F ok => evQ_var (ok.ix hi) (ok.vis h.1) hk (plain_d h.2) (plain_c h.2)⟩
        else (r.e c ks (.Name x pos)).map fun f => ⟨f.1, fun X F ok => (f.2 X F ok).toQ⟩
      else none
    | none => none
  | e => (r.e c ks e).map fun f => ⟨f.1, fun X F ok => (f.2 X F ok).toQ⟩
def compTs : (ifs : List Expr) → Option { f : SB // ∀ X F, XOk T c X F → EvTs X ks F ifs f }
  | [] => some ⟨cTrue, fun X F ok => evTs_nil⟩
  | [e] => (r.t c ks e).map fun f => ⟨f.1, fun X F ok => evTs_one (f.2 X F ok)⟩
  | _ => none
def slotsOf : Expr → List Nat
  | .Name x _ => (c.ix x).toList
  | .Call _ es _ _ => es.filterMap fun | .Name x _ => c.ix x | _ => none
  | _ => []
def ownOf (scope : Scope) : List (Str × Nat) := scope.names.filterMap fun (n, k) => if (decide (k = .local) || decide (k = .cell)) = true then (c.ix n).map fun i => (n, i) else none
theorem plainIter_ok {iter : Expr} (h : plainIter iter = true) (env : PySem.Env) : ∀ x, foldedSetIterable iter env x = pure x := by
  intro x
  cases iter <;> first | rfl | cases h
def compLc (ks' : Ks) (elt tg iter : Expr) (ifs : List Expr) (scope : Scope) (pos : Pos) : CNS T c ks' (.ListComp elt [⟨tg, iter, ifs, 0⟩] scope pos) :=
  if h : blkC c.N c.scope scope (ownOf c scope) = true ∧ scope.kind = .function ∧ plainIter iter = true then
    let kb := setF ((ownOf c scope).map (·.2)) 0 ks'
    (r.i c ks' tg iter).bind fun fi => (compG (T := T) (c.blk scope) kb 20 tg).bind fun g => (compTs r (c.blk scope) kb ifs).bind fun ft => (r.e (c.blk scope) kb elt).bind fun fe =>
      if his : ∀ j ∈ g.1.1, j ∈ (ownOf c scope).map (·.2) then
        some ⟨cLc ((ownOf c scope).map (·.2)) fi.1 g.1.2 ft.1 fe.1, fun X F ok => evNS_lc ok.calm ok.nodup (fi.2 X F ok) (by rw [ok.hN, ok.sc]; exact blkOk_by h.1) his (fun i hi => kd_setF _ ks' 0 i (by rw [Nat.zero_add]; exact hi))
          (fun s H C cl fp => g.2.1 _ F (ok.blk h.2.1 s H C cl fp)) (fun s H C cl fp => ft.2 _ F (ok.blk h.2.1 s H C cl fp)) (fun s H C cl fp => fe.2 _ F (ok.blk h.2.1 s H C cl fp)) (plainIter_ok h.2.2 X.env)⟩
      else none
  else none
def compNL (elt tg iter : Expr) (scope : Scope) (pos : Pos) : Option { f : SE // ∀ X F, XOk T c X F → EvNL X ks F (.ListComp elt [⟨tg, iter, [], 0⟩] scope pos) f } :=
  if h : blkC c.N c.scope scope (ownOf c scope) = true ∧ scope.kind = .function ∧ plainIter iter = true then
    let ks' := demote (slotsOf c iter) 0 ks
    let kb := setF ((ownOf c scope).map (·.2)) 0 ks'
    (r.i c ks' tg iter).bind fun fi => (compG (T := T) (c.blk scope) kb 20 tg).bind fun g => (r.n (c.blk scope) kb elt).bind fun fe =>
      if his : ∀ j ∈ g.1.1, j ∈ (ownOf c scope).map (·.2) then
        some ⟨cNL ((ownOf c scope).map (·.2)) fi.1 g.1.2 fe.1, fun X F ok => (evNL_lc ok.calm ok.nodup (fi.2 X F ok) (by rw [ok.hN, ok.sc]; exact blkOk_by h.1) his (fun i hi => kd_setF _ ks' 0 i (by rw [Nat.zero_add]; exact hi))
          (fun s H C cl fp => g.2.1 _ F (ok.blk h.2.1 s H C cl fp)) (fun s H C cl fp => fe.2 _ F (ok.blk h.2.1 s H C cl fp)) (plainIter_ok h.2.2 X.env)).undem (dem_demote _ ks 0)⟩
      else none
  else none
def compLc2 (ks' : Ks) (elt tg iter tg1 iter1 : Expr) (ifs ifs1 : List Expr) (scope : Scope) (pos : Pos) : CNS T c ks' (.ListComp elt [⟨tg, iter, ifs, 0⟩, ⟨tg1, iter1, ifs1, 0⟩] scope pos) :=
  if h : blkC c.N c.scope scope (ownOf c scope) = true ∧ scope.kind = .function ∧ plainIter iter = true ∧ plainIter iter1 = true then
    let kb := setF ((ownOf c scope).map (·.2)) 0 ks'
    (r.i c ks' tg iter).bind fun fi => (compG (T := T) (c.blk scope) kb 20 tg).bind fun g => (compTs r (c.blk scope) kb ifs).bind fun ft => (r.i (c.blk scope) kb tg1 iter1).bind fun fi1 =>
      (compG (T := T) (c.blk scope) kb 20 tg1).bind fun g1 => (compTs r (c.blk scope) kb ifs1).bind fun ft1 => (r.e (c.blk scope) kb elt).bind fun fe =>
      if his : (∀ j ∈ g.1.1, j ∈ (ownOf c scope).map (·.2)) ∧ ∀ j ∈ g1.1.1, j ∈ (ownOf c scope).map (·.2) then
        some ⟨cLc2 ((ownOf c scope).map (·.2)) g1.1.1 fi.1 g.1.2 ft.1 fi1.1 g1.1.2 ft1.1 fe.1, fun X F ok => evNS_lc2 ok.calm ok.nodup (fi.2 X F ok) (by rw [ok.hN, ok.sc]; exact blkOk_by h.1) his.1 his.2 (fun _ z => z) (fun i hi => kd_setF _ ks' 0 i (by rw [Nat.zero_add]; exact hi)) g.2.2.1 g.2.2.2
          (fun s H C cl fp => g.2.1 _ F (ok.blk h.2.1 s H C cl fp)) (fun s H C cl fp => ft.2 _ F (ok.blk h.2.1 s H C cl fp)) (fun s H C cl fp => fi1.2 _ F (ok.blk h.2.1 s H C cl fp)) (fun s H C cl fp => g1.2.1 _ F (ok.blk h.2.1 s H C cl fp)) (fun s H C cl fp => ft1.2 _ F (ok.blk h.2.1 s H C cl fp)) (fun s H C cl fp => fe.2 _ F (ok.blk h.2.1 s H C cl fp)) (plainIter_ok h.2.2.1 X.env) (fun env => plainIter_ok h.2.2.2 env)⟩
      else none
  else none
def stepS : (e : Expr) → CNS T c ks e
  | .ListComp elt [⟨tg, iter, ifs, 0⟩, ⟨tg1, iter1, ifs1, 0⟩] scope pos => (compLc2 r c (demote (slotsOf c iter ++ slotsOf c iter1) 0 ks) elt tg iter tg1 iter1 ifs ifs1 scope pos).map fun f => ⟨f.1, fun X F ok => (f.2 X F ok).undem (dem_demote _ ks 0)⟩
  | .ListComp elt [⟨tg, iter, ifs, 0⟩] scope pos => (compLc r c (demote (slotsOf c iter) 0 ks) elt tg iter ifs scope pos).map fun f => ⟨f.1, fun X F ok => (f.2 X F ok).undem (dem_demote _ ks 0)⟩
  | _ => none
/-- a slice's part -/
def compO : (o : Option Expr) → Option { f : SO // ∀ X F, XOk T c X F → EvO X ks F o f }
  | none => some ⟨cNone, fun X F ok => evO_none⟩
  | some e => (r.p c ks e).map fun f => ⟨cPart f.1, fun X F ok => evO_some (f.2 X F ok)⟩
end
end RE
/-! RE18: expressions, with their proofs, by forms. -/
namespace RE
open PySem PySem.Spec PyProof.Rows L2

/-- types by their names -/
def tyOf (y : Str) : Option { U : String // Str.ofString U = y ∧ tyKnown U = true ∧ bootBuiltins y = some (.type U) } :=
  if h : y = "int" then some ⟨"int", by rw [h]; exact ⟨rfl, by decide +kernel, by decide +kernel⟩⟩
  else if h : y = "bool" then some ⟨"bool", by rw [h]; exact ⟨rfl, by decide +kernel, by decide +kernel⟩⟩
  else if h : y = "str" then some ⟨"str", by rw [h]; exact ⟨rfl, by decide +kernel, by decide +kernel⟩⟩
  else if h : y = "tuple" then some ⟨"tuple", by rw [h]; exact ⟨rfl, by decide +kernel, by decide +kernel⟩⟩
  else if h : y = "list" then some ⟨"list", by rw [h]; exact ⟨rfl, by decide +kernel, by decide +kernel⟩⟩
  else none
theorem xop_units {T : Tab} {c : SC} {X : Cx} {F : Fn} (ok : XOk T c X F) : X.A.units + 65 < cLine ∧ X.A.units + 64 < cLine ∧ X.A.units + 1 < cLine := by
  have := ok.un
  omega
section
variable {T : Tab} (r : Rec T) (c : SC) (ks : Ks)
/-- a global name's look -/
def glB (x : Str) : Bool := c.gl x && plainName x
def bltB (T : Tab) (c : SC) (x : Str) : Bool := c.gl x && plainName x && decide (x ∈ T.blt)
theorem bltB_ok {T : Tab} {c : SC} {x : Str} {X : Cx} {F : Fn} (ok : XOk T c X F) (h : bltB T c x = true) : Gl X x ∧ X.mg x = none ∧ (x == ("__debug__" : Str)) = false ∧ x ≠ "__name__" := by
  unfold bltB at h
  rw [Bool.and_eq_true, Bool.and_eq_true, decide_eq_true_eq] at h
  exact ⟨ok.gl h.1.1, ok.blt x h.2, plain_d h.1.2, plain_n h.1.2⟩
def compConst (x : Str) (pos : Pos) : CN T c ks (.Name x pos) :=
  match hd : T.glb.lookup x with
  | some d => if h : c.gl x = true ∧ plainName x = true then some ⟨cC d, fun X F ok => by
      obtain ⟨v, u, h1, h2, h3⟩ := ok.glb x d hd
      exact evN_glob h1 (ok.gl h.1) h2 h3 (plain_d h.2)⟩ else none
  | none => none
def compIsi (e : Expr) (p pos : Pos) : (k : Expr) → CN T c ks (.Call (.Name "isinstance" p) [e, k] [] pos)
  | .Name y p2 => (tyOf y).bind fun U => if h : bltB T c "isinstance" = true ∧ bltB T c y = true ∧ noStar e = true then (r.p c ks e).map fun f => ⟨cU (isiD [U.1]) f.1, fun X F ok => by
      obtain ⟨U, hU, h2, h3⟩ := U
      subst hU
      have a := bltB_ok ok h.1
      have b := bltB_ok ok h.2.1
      exact evN_isi a.1 a.2.1 h2 b.1 b.2.1 h3 b.2.2.2 b.2.2.1 h.2.2 (f.2 X F ok)⟩ else none
  | .Tuple [.Name y p2, .Name z p3] kt p4 => (tyOf y).bind fun U => (tyOf z).bind fun W => if h : bltB T c "isinstance" = true ∧ bltB T c y = true ∧ bltB T c z = true ∧ noStar e = true then (r.p c ks e).map fun f => ⟨cU (isiD [U.1, W.1]) f.1, fun X F ok => by
      obtain ⟨U, hU, h2, h3⟩ := U
      obtain ⟨W, hW, h4, h5⟩ := W
      subst hU hW
      have a := bltB_ok ok h.1
      have b := bltB_ok ok h.2.1
      have b' := bltB_ok ok h.2.2.1
      exact evN_isi2 a.1 a.2.1 h2 b.1 b.2.1 h3 b.2.2.2 b.2.2.1 h4 b'.1 b'.2.1 h5 b'.2.2.2 b'.2.2.1 h.2.2.2 (f.2 X F ok)⟩ else none
  | _ => none
noncomputable def compBf (x : Str) (p pos : Pos) (a : Expr) (es : List Expr) : CN T c ks (.Call (.Name x p) (a :: es) [] pos) :=
  match hb : bfs.find? fun b => decide (b.x = x) && b.n == es.length + 1 with
  | some b => if h : bltB T c b.x = true ∧ (a :: es).all noStar = true then (compA r c ks [.B, .B, .B, .B] (a :: es)).map fun g => ⟨cCall b.op g.1, fun X F ok => by
      have hx : b.x = x := by
        have := List.find?_some hb
        rw [Bool.and_eq_true] at this
        exact of_decide_eq_true this.1
      subst hx
      have q := h.1
      unfold bltB at q
      rw [Bool.and_eq_true, Bool.and_eq_true, decide_eq_true_eq] at q
      exact evN_bf ok b q.1.1 q.2 q.1.2 h.2 (g.2.2 X F ok)⟩ else none
  | none => none
def compFn (x : Str) (p pos : Pos) (es : List Expr) : CE T c ks (.Call (.Name x p) es [] pos) :=
  match hf : T.fns.lookup x with
  | some pk => if h : c.gl x = true ∧ plainName x = true ∧ es.all noStar = true ∧ es.length = pk.ks.length then (compA r c ks pk.ks es).map fun g => ⟨cFn x g.1, fun X F ok => evE_call (ok.fns x pk hf) (ok.gl h.1) (plain_d h.2.1) h.2.2.1 h.2.2.2 g.2.1 (g.2.2 X F ok)⟩ else none
  | none => none
def compFnN (x : Str) (p pos : Pos) (es : List Expr) : CN T c ks (.Call (.Name x p) es [] pos) :=
  match hf : T.fns.lookup x with
  | some pk => if h : c.gl x = true ∧ plainName x = true ∧ es.all noStar = true ∧ es.length = pk.ks.length then
    if hn : pk.nw = true then (compA r c ks pk.ks es).map fun g => ⟨cFn x g.1, fun X F ok => evN_callNew hn (ok.fns x pk hf) (ok.gl h.1) (plain_d h.2.1) h.2.2.1 h.2.2.2 g.2.1 (g.2.2 X F ok)⟩
    else (compA r c ks pk.ks es).map fun g => ⟨cFnN x g.1, fun X F ok => evN_call (ok.fns x pk hf) (ok.gl h.1) (plain_d h.2.1) h.2.2.1 h.2.2.2 g.2.1 (g.2.2 X F ok)⟩ else none
  | none => none
def compCmp (a b : Expr) (pos : Pos) : (op : CmpOp) → CN T c ks (.Compare a [op] [b] pos)
  | .In => if h : behindInMarks .In b = false then (r.p c ks a).bind fun f => (r.p c ks b).map fun g => ⟨cB inD f.1 g.1, fun X F ok => evN_in (xop_units ok).1 h (f.2 X F ok) (g.2 X F ok)⟩ else none
  | .NotIn => if h : behindInMarks .NotIn b = false then (r.p c ks a).bind fun f => (r.p c ks b).map fun g => ⟨cB notInD f.1 g.1, fun X F ok => evN_notIn (xop_units ok).1 h (f.2 X F ok) (g.2 X F ok)⟩ else none
  | op => if h : behindInMarks op b = false then (cmpF op).bind fun o => (r.p c ks a).bind fun f => (r.p c ks b).map fun g => ⟨cB o.1 f.1 g.1, fun X F ok => by
      obtain ⟨rr, h1, h2⟩ := o.2 X ok.un
      exact evN_cmp h1 h2 h (f.2 X F ok) (g.2 X F ok)⟩ else none
def compCmpT (a b : Expr) (pos : Pos) : (op : CmpOp) → CT T c ks (.Compare a [op] [b] pos)
  | .In => if h : behindInMarks .In b = false then (r.p c ks a).bind fun f => (r.p c ks b).map fun g => ⟨cBT inD f.1 g.1, fun X F ok => evT_in (xop_units ok).1 h (f.2 X F ok) (g.2 X F ok)⟩ else none
  | .NotIn => if h : behindInMarks .NotIn b = false then (r.p c ks a).bind fun f => (r.p c ks b).map fun g => ⟨cBT notInD f.1 g.1, fun X F ok => evT_notIn (xop_units ok).1 h (f.2 X F ok) (g.2 X F ok)⟩ else none
  | op => if h : behindInMarks op b = false then (cmpF op).bind fun o => (r.p c ks a).bind fun f => (r.p c ks b).map fun g => ⟨cBT o.1 f.1 g.1, fun X F ok => by
      obtain ⟨rr, h1, h2⟩ := o.2 X ok.un
      exact evT_cmp h1 h2 h (f.2 X F ok) (g.2 X F ok)⟩ else none
def cChT (o o' : D → D → Option D) (f g h : SE) : SB := fun F ρ => (cCh o o' f g h F ρ).bind boolD
/-- sorted(..) -/
noncomputable def compSortSc (p pos2 pos : Pos) (elt tg iter : Expr) (ifs : List Expr) (scope : Scope) : CN T c ks (.Call (.Name "sorted" p) [.SetComp elt [⟨tg, iter, ifs, 0⟩] scope pos2] [] pos) :=
  if h : bltB T c "sorted" = true ∧ blkC c.N c.scope scope (ownOf c scope) = true ∧ scope.kind = .function ∧ plainIter iter = true then
    let kb := setF ((ownOf c scope).map (·.2)) 0 ks
    (r.i c ks tg iter).bind fun fi => (compG (T := T) (c.blk scope) kb 20 tg).bind fun g => (compTs r (c.blk scope) kb ifs).bind fun ft => (r.e (c.blk scope) kb elt).bind fun fe =>
      if his : ∀ j ∈ g.1.1, j ∈ (ownOf c scope).map (·.2) then
        some ⟨cSs ((ownOf c scope).map (·.2)) fi.1 g.1.2 ft.1 fe.1, fun X F ok => evN_scSort ok.calm ok.un ok.nodup (bltB_ok ok h.1).1 (bltB_ok ok h.1).2.1 (fi.2 X F ok) (by rw [ok.hN, ok.sc]; exact blkOk_by h.2.1) his (fun i hi => kd_setF _ ks 0 i (by rw [Nat.zero_add]; exact hi))
          (fun s H C cl fp => g.2.1 _ F (ok.blk h.2.2.1 s H C cl fp)) (fun s H C cl fp => ft.2 _ F (ok.blk h.2.2.1 s H C cl fp)) (fun s H C cl fp => fe.2 _ F (ok.blk h.2.2.1 s H C cl fp)) (plainIter_ok h.2.2.2 X.env)⟩
      else none
  else none
noncomputable def compSorted (p pos : Pos) : (a : Expr) → CN T c ks (.Call (.Name "sorted" p) [a] [] pos)
  | .Call (.Name y p2) [e] [] pos2 => if h : y = "set" ∧ bltB T c "sorted" = true ∧ bltB T c "set" = true ∧ noStar e = true then (r.p c ks e).map fun f => ⟨cU setSortD f.1, fun X F ok => by
      obtain ⟨rfl, h1, h2, h3⟩ := h
      have a := bltB_ok ok h1
      have b := bltB_ok ok h2
      exact evN_setSort ok.calm ok.un a.1 a.2.1 b.1 b.2.1 h3 (f.2 X F ok)⟩ else compBf r c ks "sorted" p pos (.Call (.Name y p2) [e] [] pos2) []
  | .SetComp elt [⟨tg, iter, ifs, 0⟩] scope pos2 => compSortSc r c ks p pos2 pos elt tg iter ifs scope
  | a => compBf r c ks "sorted" p pos a []
/-- a list comprehension over a dict's keys -/
def compLcD (elt tg : Expr) (x : Str) (p : Pos) (ifs : List Expr) (scope : Scope) (pos : Pos) : CN T c ks (.ListComp elt [⟨tg, .Name x p, ifs, 0⟩] scope pos) :=
  match hi : c.ix x with
  | some i => if h : blkC c.N c.scope scope (ownOf c scope) = true ∧ scope.kind = .function ∧ c.vis x = true ∧ plainName x = true then
    let kb := setF ((ownOf c scope).map (·.2)) 0 ks
    (compG (T := T) (c.blk scope) kb 20 tg).bind fun g => (compTs r (c.blk scope) kb ifs).bind fun ft => (r.e (c.blk scope) kb elt).bind fun fe =>
      if his : ∀ j ∈ g.1.1, j ∈ (ownOf c scope).map (·.2) then
        some ⟨cLc ((ownOf c scope).map (·.2)) (cKeys i) g.1.2 ft.1 fe.1, fun X F ok => evN_lcD ok.calm ok.nodup (ok.ix hi) (ok.vis h.2.2.1) (plain_d h.2.2.2) (plain_c h.2.2.2) (by rw [ok.hN, ok.sc]; exact blkOk_by h.1) his (fun i hi => kd_setF _ ks 0 i (by rw [Nat.zero_add]; exact hi))
          (fun s H C cl fp => g.2.1 _ F (ok.blk h.2.1 s H C cl fp)) (fun s H C cl fp => ft.2 _ F (ok.blk h.2.1 s H C cl fp)) (fun s H C cl fp => fe.2 _ F (ok.blk h.2.1 s H C cl fp)) (fun _ => rfl)⟩
      else none
    else none
  | none => none
/-- a dict comprehension -/
def compDc (k : Bool) (kx vx tg iter : Expr) (ifs : List Expr) (scope : Scope) (pos : Pos) : Option { f : SE // ∀ X F, XOk T c X F → EvM X ks F (.DictComp kx vx [⟨tg, iter, ifs, 0⟩] scope pos) f } :=
  if h : blkC c.N c.scope scope (ownOf c scope) = true ∧ scope.kind = .function ∧ plainIter iter = true then
    let kb := setF ((ownOf c scope).map (·.2)) 0 ks
    (r.i c ks tg iter).bind fun fi => (compG (T := T) (c.blk scope) kb 20 tg).bind fun g => (compTs r (c.blk scope) kb ifs).bind fun ft => (r.e (c.blk scope) kb kx).bind fun fk => (r.e (c.blk scope) kb vx).bind fun fe =>
      if his : ∀ j ∈ g.1.1, j ∈ (ownOf c scope).map (·.2) then
        some ⟨cDc k ((ownOf c scope).map (·.2)) fi.1 g.1.2 ft.1 fk.1 fe.1, fun X F ok => evM_dc k (xop_units ok).2.2 ok.calm ok.nodup (fi.2 X F ok) (by rw [ok.hN, ok.sc]; exact blkOk_by h.1) his (fun i hi => kd_setF _ ks 0 i (by rw [Nat.zero_add]; exact hi))
          (fun s H C cl fp => g.2.1 _ F (ok.blk h.2.1 s H C cl fp)) (fun s H C cl fp => ft.2 _ F (ok.blk h.2.1 s H C cl fp)) (fun s H C cl fp => fk.2 _ F (ok.blk h.2.1 s H C cl fp)) (fun s H C cl fp => fe.2 _ F (ok.blk h.2.1 s H C cl fp)) (plainIter_ok h.2.2 X.env)⟩
      else none
  else none
/-- a method of a written text -/
def compMethS (a : Str) (k : _) (p : Pos) (m : Str) (apos : Pos) (e : Expr) (pos : Pos) : CN T c ks (.Call (.Attribute (.Constant (.str a) k p) m apos) [e] [] pos) :=
  if h : m = "join" ∧ noStar e = true ∧ (apos.endLine == pos.line) = true then (r.p c ks e).map fun f => ⟨cU (joinD a) f.1, fun X F ok => by
    obtain ⟨rfl, h2, h3⟩ := h
    exact evN_join h2 h3 (f.2 X F ok)⟩ else none
noncomputable def stepN : (e : Expr) → CN T c ks e
  | .Constant (.int i) j pos => some ⟨cC (.int i), fun X F ok => evN_int⟩
  | .Constant (.bool b) j pos => some ⟨cC (.bl b), fun X F ok => evN_bl⟩
  | .Constant .none j pos => some ⟨cC .non, fun X F ok => evN_non⟩
  | .Constant (.str s) j pos => some ⟨cC (.str s), fun X F ok => evN_str⟩
  | .Name x pos => compConst c ks x pos
  | .Tuple es x1 pos => (compA r c ks [] es).map fun g => ⟨cTup g.1, fun X F ok => evN_tup (g.2.2 X F ok)⟩
  | .List es pos => (compA r c ks [] es).map fun g => ⟨cLst g.1, fun X F ok => evN_lst (g.2.2 X F ok)⟩
  | .BinOp a op b pos => (binF op).bind fun o => (r.p c ks a).bind fun f => (r.p c ks b).map fun g => ⟨cB o.1 f.1 g.1, fun X F ok => by
      obtain ⟨rr, h1, h2⟩ := o.2 X ok.un
      exact evN_bin h1 h2 (f.2 X F ok) (g.2 X F ok)⟩
  | .UnaryOp .USub a pos => (r.p c ks a).map fun f => ⟨cU negD f.1, fun X F ok => evN_un un_neg negD_ok (f.2 X F ok)⟩
  | .UnaryOp .Not a pos => (r.p c ks a).map fun f => ⟨cNot f.1, fun X F ok => evN_not (f.2 X F ok)⟩
  | .Compare a [op] [b] pos => compCmp r c ks a b pos op
  | .Compare a [op, op'] [b, d] pos => if h : lastMarks [op, op'] [b, d] = false then (cmpF op).bind fun o => (cmpF op').bind fun o' => (r.p c ks a).bind fun f => (r.p c ks b).bind fun g => (r.p c ks d).map fun k => ⟨cCh o.1 o'.1 f.1 g.1 k.1, fun X F ok => by
      obtain ⟨rr, h1, h2⟩ := o.2 X ok.un
      obtain ⟨rr', h1', h2'⟩ := o'.2 X ok.un
      exact evN_chain h1 h2 h1' h2' (f.2 X F ok) (g.2 X F ok) (k.2 X F ok) h⟩ else none
  | .IfExp t a b pos => (r.t c ks t).bind fun h => (r.n c ks a).bind fun f => (r.n c ks b).map fun g => ⟨cIf h.1 f.1 g.1, fun X F ok => evN_if (h.2 X F ok) (f.2 X F ok) (g.2 X F ok)⟩
  | .Call (.Name x p) [] [] pos => compFnN r c ks x p pos []
  | .Call (.Name x p) [a, b] [] pos => if h : x = "isinstance" then h ▸ compIsi r c ks a p pos b else (compBf r c ks x p pos a [b]).orElse fun _ => compFnN r c ks x p pos [a, b]
  | .Call (.Name x p) [a] [] pos => if h : x = "sorted" then h ▸ compSorted r c ks p pos a else (compBf r c ks x p pos a []).orElse fun _ => compFnN r c ks x p pos [a]
  | .Call (.Name x p) (a :: es) [] pos => (compBf r c ks x p pos a es).orElse fun _ => compFnN r c ks x p pos (a :: es)
  | .Subscript e (.Slice none none (some (.UnaryOp .USub (.Constant (.int 1) k p1) p2)) p3) pos => (r.p c ks e).map fun f => ⟨cU revD f.1, fun X F ok => evN_rev (f.2 X F ok)⟩
  | .Subscript e (.Slice lo hi (some (.Constant (.int n) k p1)) p3) pos => if h : n ≠ 0 then (r.p c ks e).bind fun f => (compO r c ks lo).bind fun g => (compO r c ks hi).map fun q => ⟨cStep f.1 g.1 q.1 n, fun X F ok => evN_step h (f.2 X F ok) (g.2 X F ok) (q.2 X F ok)⟩ else none
  | .Subscript e (.Slice lo hi none p2) pos => (r.p c ks e).bind fun f => (compO r c ks lo).bind fun g => (compO r c ks hi).map fun h => ⟨cSl f.1 g.1 h.1, fun X F ok => evN_slice (f.2 X F ok) (g.2 X F ok) (h.2 X F ok)⟩
  | .Call (.Attribute (.Constant (.str a) k p) m apos) [e] [] pos => compMethS r c ks a k p m apos e pos
  | .Dict [] [] pos => some ⟨cC (.dic (T.tk c.N "") []), fun X F ok => (evM_dnew _).toN⟩
  | .DictComp kx vx [⟨tg, iter, ifs, 0⟩] scope pos => (compDc r c ks (T.tk c.N "") kx vx tg iter ifs scope pos).map fun f => ⟨f.1, fun X F ok => (f.2 X F ok).toN⟩
  | .ListComp elt [⟨tg, .Name x p, ifs, 0⟩] scope pos => if T.dn c.N x = true then compLcD r c ks elt tg x p ifs scope pos else (r.s c ks (.ListComp elt [⟨tg, .Name x p, ifs, 0⟩] scope pos)).map fun f => ⟨f.1, fun X F ok => (f.2 X F ok).toN⟩
  | e => (r.s c ks e).map fun f => ⟨f.1, fun X F ok => (f.2 X F ok).toN⟩
def compBoolE (pos : Pos) : (op : BoolOp) → (es : List Expr) → CE T c ks (.BoolOp op es pos)
  | op, [a] => (r.e c ks a).map fun f => ⟨f.1, fun X F ok => evE_one (f.2 X F ok)⟩
  | .Or, a :: b :: es => (r.e c ks a).bind fun f => (compBoolE pos .Or (b :: es)).map fun g => ⟨cOr f.1 g.1, fun X F ok => evE_or (f.2 X F ok) (g.2 X F ok)⟩
  | .And, a :: b :: es => (r.e c ks a).bind fun f => (compBoolE pos .And (b :: es)).map fun g => ⟨cAnd f.1 g.1, fun X F ok => evE_and (f.2 X F ok) (g.2 X F ok)⟩
  | _, [] => none
def compW (pos : Pos) : (op : BoolOp) → (es : List Expr) → CW T c ks (.BoolOp op es pos)
  | .And, [a] => (r.t c ks a).map fun f => ⟨f.1, fun X F ok => evW_and1 (f.2 X F ok)⟩
  | .Or, [a] => (r.t c ks a).map fun f => ⟨f.1, fun X F ok => evW_or1 (f.2 X F ok)⟩
  | .Or, a :: b :: es => (r.t c ks a).bind fun f => (compW pos .Or (b :: es)).map fun g => ⟨cOrT f.1 g.1, fun X F ok => evW_or (f.2 X F ok) (g.2 X F ok)⟩
  | .And, a :: b :: es => (r.t c ks a).bind fun f => (compW pos .And (b :: es)).map fun g => ⟨cAndT f.1 g.1, fun X F ok => evW_and (f.2 X F ok) (g.2 X F ok)⟩
  | _, [] => none
def toE (e : Expr) : CE T c ks e := (r.n c ks e).map fun f => ⟨f.1, fun X F ok => (f.2 X F ok).toE⟩
/-- min(..) of one thing -/
def compMin (p pos : Pos) (a : Expr) : CE T c ks (.Call (.Name "min" p) [a] [] pos) :=
  if h : bltB T c "min" = true ∧ noStar a = true then (r.p c ks a).map fun f => ⟨cU minDD f.1, fun X F ok => evE_min ok.calm ok.un (bltB_ok ok h.1).1 (bltB_ok ok h.1).2.1 h.2 (f.2 X F ok)⟩ else none
def stepE : (e : Expr) → CE T c ks e
  | .Name x pos => match hi : c.ix x with
    | some i => if h : c.vis x = true ∧ plainName x = true ∧ kd ks i = .F then some ⟨cV i, fun X F ok => evE_var (ok.ix hi) (ok.vis h.1) h.2.2 (plain_d h.2.1) (plain_c h.2.1)⟩ else none
    | none => toE r c ks (.Name x pos)
  | .BoolOp op es pos => compBoolE r c ks pos op es
  | .IfExp t a b pos => (r.t c ks t).bind fun h => (r.e c ks a).bind fun f => (r.e c ks b).map fun g => ⟨cIf h.1 f.1 g.1, fun X F ok => evE_if (h.2 X F ok) (f.2 X F ok) (g.2 X F ok)⟩
  | .Call (.Name x p) [a] [] pos => if h : x = "min" ∧ T.dn c.N "min" = true then h.1 ▸ compMin r c ks p pos a else (compFn r c ks x p pos [a]).orElse fun _ => toE r c ks (.Call (.Name x p) [a] [] pos)
  | .Call (.Name x p) es [] pos => (compFn r c ks x p pos es).orElse fun _ => toE r c ks (.Call (.Name x p) es [] pos)
  | .Subscript a b pos => if h : plainIx b = true then (r.p c ks a).bind fun f => (r.p c ks b).map fun g => ⟨cIx f.1 g.1, fun X F ok => evE_idx (xop_units ok).2.2 h (f.2 X F ok) (g.2 X F ok)⟩ else toE r c ks (.Subscript a b pos)
  | e => toE r c ks e
def toPc (e : Expr) : CP T c ks e := (r.e c ks e).map fun f => ⟨f.1, fun X F ok => (f.2 X F ok).toP⟩
def compFnP (x : Str) (pos : Pos) : CP T c ks (.Name x pos) :=
  match hf : T.fns.lookup x with
  | some pk => if h : c.gl x = true ∧ plainName x = true then some ⟨cC (.fn x), fun X F ok => by
      obtain ⟨a, fd, ps, k, h1, h2, h3, h4, h5⟩ := (ok.fns x pk hf).ex
      exact evP_fn (ok.gl h.1) h3 (plain_d h.2)⟩ else none
  | none => none
def stepP : (e : Expr) → CP T c ks e
  | .Name x pos => match hi : c.ix x with
    | some i => if h : c.vis x = true ∧ plainName x = true then some ⟨cV i, fun X F ok => evP_var (ok.ix hi) (ok.vis h.1) (plain_d h.2) (plain_c h.2)⟩ else none
    | none => (compFnP c ks x pos).orElse fun _ => toPc r c ks (.Name x pos)
  | .IfExp t a b pos => (r.t c ks t).bind fun h => (r.p c ks a).bind fun f => (r.p c ks b).map fun g => ⟨cIf h.1 f.1 g.1, fun X F ok => evP_if (h.2 X F ok) (f.2 X F ok) (g.2 X F ok)⟩
  | e => toPc r c ks e
def stepT : (e : Expr) → CT T c ks e
  | .Compare a [op] [b] pos => compCmpT r c ks a b pos op
  | .Compare a [op, op'] [b, d] pos => if h : lastMarks [op, op'] [b, d] = false then (cmpF op).bind fun o => (cmpF op').bind fun o' => (r.p c ks a).bind fun f => (r.p c ks b).bind fun g => (r.p c ks d).map fun k => ⟨cChT o.1 o'.1 f.1 g.1 k.1, fun X F ok => by
      obtain ⟨rr, h1, h2⟩ := o.2 X ok.un
      obtain ⟨rr', h1', h2'⟩ := o'.2 X ok.un
      exact evT_chain h1 h2 h1' h2' (f.2 X F ok) (g.2 X F ok) (k.2 X F ok) h⟩ else none
  | .BoolOp op es pos => (compW r c ks pos op es).map fun f => ⟨f.1, fun X F ok => (f.2 X F ok).toT⟩
  | .UnaryOp .Not a pos => (r.t c ks a).map fun f => ⟨cNotT f.1, fun X F ok => evT_not (f.2 X F ok)⟩
  | e => if h : plainTest e = true then (r.p c ks e).map fun f => ⟨cTr f.1, fun X F ok => evT_truth h (f.2 X F ok)⟩ else none
def ofQ (tg e : Expr) : CI T c ks tg e := (compQ r c ks e).map fun f => ⟨cWalk f.1, fun X F ok => evI_of (f.2 X F ok)⟩
def compRng1 (tg a : Expr) (p pos : Pos) : CI T c ks tg (.Call (.Name "range" p) [a] [] pos) :=
  if h : bltB T c "range" = true ∧ noStar a = true then (r.p c ks a).map fun f => ⟨cRng1 f.1, fun X F ok => evI_range1 (bltB_ok ok h.1).1 (bltB_ok ok h.1).2.1 h.2 (f.2 X F ok)⟩ else none
def compRng2 (tg a b : Expr) (p pos : Pos) : CI T c ks tg (.Call (.Name "range" p) [a, b] [] pos) :=
  if h : bltB T c "range" = true ∧ noStar a = true ∧ noStar b = true then (r.p c ks a).bind fun f => (r.p c ks b).map fun g => ⟨cRng2 f.1 g.1, fun X F ok => evI_range2 (bltB_ok ok h.1).1 (bltB_ok ok h.1).2.1 h.2.1 h.2.2 (f.2 X F ok) (g.2 X F ok)⟩ else none
def compEnum (a : Expr) (p pos : Pos) : (tg : Expr) → CI T c ks tg (.Call (.Name "enumerate" p) [a] [] pos)
  | .Tuple ts k tp => if h : bltB T c "enumerate" = true ∧ noStar a = true then (compQ r c ks a).map fun f => ⟨cEnum f.1, fun X F ok => evI_enum (bltB_ok ok h.1).1 (bltB_ok ok h.1).2.1 h.2 (f.2 X F ok)⟩ else none
  | _ => none
def compZip (a b : Expr) (p pos : Pos) : (tg : Expr) → CI T c ks tg (.Call (.Name "zip" p) [a, b] [] pos)
  | .Tuple ts k tp => if h : bltB T c "zip" = true ∧ noStar a = true ∧ noStar b = true then (compQ r c ks a).bind fun f => (compQ r c ks b).map fun g => ⟨cZip f.1 g.1, fun X F ok => evI_zip (bltB_ok ok h.1).1 (bltB_ok ok h.1).2.1 h.2.1 h.2.2 (f.2 X F ok) (g.2 X F ok)⟩ else none
  | _ => none
def stepI (tg : Expr) : (e : Expr) → CI T c ks tg e
  | .Call (.Name x p) [a] [] pos => if h : x = "range" then h ▸ compRng1 r c ks tg a p pos else if h : x = "enumerate" then h ▸ compEnum r c ks a p pos tg else ofQ r c ks tg (.Call (.Name x p) [a] [] pos)
  | .Call (.Name x p) [a, b] [] pos => if h : x = "range" then h ▸ compRng2 r c ks tg a b p pos else if h : x = "zip" then h ▸ compZip r c ks a b p pos tg else ofQ r c ks tg (.Call (.Name x p) [a, b] [] pos)
  | e => ofQ r c ks tg e
end
noncomputable def comp (T : Tab) : Nat → Rec T
  | 0 => ⟨fun _ _ _ => none, fun _ _ _ => none, fun _ _ _ => none, fun _ _ _ => none, fun _ _ _ => none, fun _ _ _ _ => none⟩
  | n + 1 => ⟨stepN (comp T n), stepS (comp T n), stepE (comp T n), stepP (comp T n), stepT (comp T n), stepI (comp T n)⟩
end RE
/-! RE19: statements, with their proofs. -/
namespace RE
open PySem PySem.Spec PyProof.Rows L2

abbrev CS (T : Tab) (c : SC) (ks : Ks) (st : Stmt) := Option { f : SS // ∀ X F, XOk T c X F → EvS X ks F st f }
abbrev CSs (T : Tab) (c : SC) (ks : Ks) (sts : List Stmt) := Option { f : SS // ∀ X F, XOk T c X F → EvSs X ks F sts f }
theorem swap_tup {ts : List Expr} {k : Nat} {p : Pos} (e : Expr) (line : Nat) (env : PySem.Env) : swapsWithSole [.Tuple ts k p] e line env = pure false := by
  have h : ∀ x q, Expr.Tuple ts k p ≠ .Name x q := fun _ _ z => nomatch z
  exact swap_other h e line env
theorem swap_sub {a b : Expr} {p : Pos} (e : Expr) (line : Nat) (env : PySem.Env) : swapsWithSole [.Subscript a b p] e line env = pure false := by
  have h : ∀ x q, Expr.Subscript a b p ≠ .Name x q := fun _ _ z => nomatch z
  exact swap_other h e line env
section
variable {T : Tab} (r : Rec T) (c : SC) (ks : Ks)
theorem EvNS.M {X : Cx} {ks : Ks} {F : Fn} {e : Expr} {f : SE} (h : EvN X ks F e f) : EvM X ks F e (cND f) := h.toM
/-- a value for an own slot -/
def compM (x : Str) : (e : Expr) → Option { f : SE // ∀ X F, XOk T c X F → EvM X ks F e f }
  | .Dict [] [] pos => some ⟨cC (.dic (T.tk c.N x) []), fun X F ok => evM_dnew _⟩
  | .DictComp kx vx [⟨tg, iter, ifs, 0⟩] scope pos => compDc r c ks (T.tk c.N x) kx vx tg iter ifs scope pos
  | e => (r.n c ks e).map fun f => ⟨cND f.1, fun X F ok => (f.2 X F ok).toM⟩
def compV : (is : List Nat) → (es : List Expr) → Option { g : SA // ∀ X F, XOk T c X F → EvV X ks F is es g }
  | [], [] => some ⟨cNil, fun X F ok => evV_nil⟩
  | i :: is, e :: es => if hs : noStar e = true then
      if hk : kd ks i = .F then (r.e c ks e).bind fun f => (compV is es).map fun g => ⟨cCons f.1 g.1, fun X F ok => evV_consF hk hs (f.2 X F ok) (g.2 X F ok)⟩
      else if hk : kd ks i = .M then (compM r c ks (c.N.getD i "") e).bind fun f => (compV is es).map fun g => ⟨cCons f.1 g.1, fun X F ok => evV_consM hk hs (f.2 X F ok) (g.2 X F ok)⟩
      else none
    else none
  | _, _ => none
/-- a target, a value, in the ordinary way -/
def compAsg (tg e : Expr) (pos : Pos) : CS T c ks (.Assign [tg] e pos) :=
  if hn : noStar tg = true then (compG (T := T) c ks 20 tg).bind fun g => (r.e c ks e).bind fun f =>
    match tg with
    | .Name x p => if h : swB c e x p = false then some ⟨sAsg f.1 g.1.2, fun X F ok => evS_asg rfl (f.2 X F ok) (g.2.1 X F ok) g.2.2.1 g.2.2.2 (by show swapsWith e (some (.Name x p)) pos.line X.env = _; rw [swap_name ok, h]) (sw_name e X.env)⟩ else none
    | .Tuple ts k p => match e with
      | .Tuple vs k2 p2 => if h : swS c ts vs = some none then some ⟨sAsg f.1 g.1.2, fun X F ok => evS_asg rfl (f.2 X F ok) (g.2.1 X F ok) g.2.2.1 g.2.2.2 (swap_tup _ _ _) (swS_ok ok h)⟩ else none
      | e => if h : notTup e = true then some ⟨sAsg f.1 g.1.2, fun X F ok => evS_asg rfl (f.2 X F ok) (g.2.1 X F ok) g.2.2.1 g.2.2.2 (swap_tup _ _ _) (sw_tup h X.env)⟩ else none
    | _ => none
  else none
/-- x = e -/
def compName (x : Str) (p pos : Pos) (e : Expr) : CS T c ks (.Assign [.Name x p] e pos) :=
  match hi : c.ix x with
  | none => none
  | some i =>
    if h : c.loc x = true ∧ c.sto x = true ∧ c.vis x = true ∧ plainName x = true then
      if sw : swB c e x p = true ∧ c.scope.names.lookup x = some .local then
        if hk : kd ks i = .F then (r.s c ks e).map fun f => ⟨sAsg f.1 (gN i), fun X F ok => evS_swF (ok.ix hi) (by rw [ok.sc]; exact sw.2) hk (by rw [swap_name ok, sw.1]) (f.2 X F ok)⟩
        else if hk : kd ks i = .M then (r.s c ks e).map fun f => ⟨sSetM i (cND f.1), fun X F ok => evS_swM (ok.ix hi) (by rw [ok.sc]; exact sw.2) hk (by rw [swap_name ok, sw.1]) (f.2 X F ok)⟩
        else none
      else if hk : kd ks i = .M then
        match e with
        | .IfExp t (.Name y p2) b p3 => if hy : y = x then (r.t c ks t).bind fun g => (r.n c ks b).map fun f => ⟨sSetIf i g.1 (cND f.1), fun X F ok => by
              subst hy
              exact evS_setIf ok.nodup (ok.ix hi) (ok.loc h.1) (ok.vis h.2.2.1) (plain_d h.2.2.2) (plain_c h.2.2.2) hk (g.2 X F ok) (f.2 X F ok).toM (ok.sto y h.2.1)⟩ else none
        | e => if hs : swB c e x p = false then (compM r c ks x e).map fun f => ⟨sSetM i f.1, fun X F ok => evS_setM ok.nodup (ok.ix hi) (ok.loc h.1) hk (f.2 X F ok) (by rw [swap_name ok, hs]) (ok.sto x h.2.1)⟩ else none
      else match e with
        | .Call (.Attribute (.Name y xp) a ap) [] [] cp => match hj : c.ix y with
          | some j => if h2 : a = "pop" ∧ c.vis y = true ∧ plainName y = true ∧ kd ks j = .M ∧ kd ks i = .F ∧ (ap.endLine == cp.line) = true then some ⟨sPop i j, fun X F ok => by
              obtain ⟨rfl, h3, h4, h5, h6, h7⟩ := h2
              exact evS_pop ok.nodup (ok.ix hj) (ok.vis h3) (plain_d h4) (plain_c h4) h5 (ok.ix hi) (ok.loc h.1) h6 (ok.sto x h.2.1) rfl h7⟩ else none
          | none => none
        | e => compAsg r c ks (.Name x p) e pos
    else none
def compTup (ts : List Expr) (k : Nat) (p pos : Pos) (e : Expr) : CS T c ks (.Assign [.Tuple ts k p] e pos) :=
  match ts, e with
  | [.Name x px, .Name y py], .Tuple [a, b] k2 pt2 => match hi : c.ix x, hj : c.ix y with
    | some i, some j => if h : i ≠ j ∧ c.scope.names.lookup x = some .local ∧ c.scope.names.lookup y = some .local ∧ (∀ l ∈ [i, j], kd ks l = .F ∨ kd ks l = .M) ∧ swS c [.Name x px, .Name y py] [a, b] = some (some [x, y]) then
        (compV r c ks [i, j] [a, b]).map fun g => ⟨sPar [i, j] g.1, fun X F ok => evS_par2 ok.calm ok.nodup (ok.ix hi) (ok.ix hj) h.1 (by rw [ok.sc]; exact h.2.1) (by rw [ok.sc]; exact h.2.2.1) h.2.2.2.1 (g.2 X F ok) (swS_ok ok h.2.2.2.2)⟩
      else compAsg r c ks (.Tuple [.Name x px, .Name y py] k p) (.Tuple [a, b] k2 pt2) pos
    | _, _ => compAsg r c ks (.Tuple [.Name x px, .Name y py] k p) (.Tuple [a, b] k2 pt2) pos
  | [.Name x px, .Name y py, .Name z pz], .Tuple [a, b, d] k2 pt2 => match hi : c.ix x, hj : c.ix y, hl : c.ix z with
    | some i, some j, some l => if h : i ≠ j ∧ i ≠ l ∧ j ≠ l ∧ c.scope.names.lookup x = some .local ∧ c.scope.names.lookup y = some .local ∧ c.scope.names.lookup z = some .local ∧ (∀ n ∈ [i, j, l], kd ks n = .F ∨ kd ks n = .M) ∧ swS c [.Name x px, .Name y py, .Name z pz] [a, b, d] = some (some [x, y, z]) then
        (compV r c ks [i, j, l] [a, b, d]).map fun g => ⟨sPar [i, j, l] g.1, fun X F ok => evS_par3 ok.calm ok.nodup (ok.ix hi) (ok.ix hj) (ok.ix hl) h.1 h.2.1 h.2.2.1 (by rw [ok.sc]; exact h.2.2.2.1) (by rw [ok.sc]; exact h.2.2.2.2.1) (by rw [ok.sc]; exact h.2.2.2.2.2.1) h.2.2.2.2.2.2.1 (g.2 X F ok) (swS_ok ok h.2.2.2.2.2.2.2)⟩
      else compAsg r c ks (.Tuple [.Name x px, .Name y py, .Name z pz] k p) (.Tuple [a, b, d] k2 pt2) pos
    | _, _, _ => compAsg r c ks (.Tuple [.Name x px, .Name y py, .Name z pz] k p) (.Tuple [a, b, d] k2 pt2) pos
  | ts, e => compAsg r c ks (.Tuple ts k p) e pos
def compPut (x : Str) (xp sp pos : Pos) (i e : Expr) : CS T c ks (.Assign [.Subscript (.Name x xp) i sp] e pos) :=
  match hj : c.ix x with
  | some j => if h : c.vis x = true ∧ plainName x = true ∧ kd ks j = .M ∧ plainKey i = true then (r.e c ks e).bind fun g => (r.p c ks i).map fun f => ⟨sPut j f.1 g.1, fun X F ok => evS_put (xop_units ok).2.2 (ok.ix hj) (ok.vis h.1) (plain_d h.2.1) (plain_c h.2.1) h.2.2.1 h.2.2.2 (g.2 X F ok) (f.2 X F ok) (swap_sub _ _ _) (sw_sub _ _)⟩ else none
  | none => none
def compApp (x a : Str) (xp ap cp pos : Pos) (e : Expr) : CS T c ks (.Expr (.Call (.Attribute (.Name x xp) a ap) [e] [] cp) pos) :=
  match hj : c.ix x with
  | some j => if h : a = "append" ∧ c.vis x = true ∧ plainName x = true ∧ kd ks j = .M ∧ noStar e = true ∧ (ap.endLine == cp.line) = true then (r.e c ks e).map fun f => ⟨sApp j f.1, fun X F ok => by
      obtain ⟨rfl, h1, h2, h3, h4, h5⟩ := h
      exact evS_app (ok.ix hj) (ok.vis h1) (plain_d h2) (plain_c h2) h3 h4 (f.2 X F ok) rfl h5⟩ else none
  | none => none
/-- what a def gives back, new -/
def compR : (e : Expr) → Option { f : SE // ∀ X F, XOk T c X F → EvR X ks F e f }
  | .Name x pos => match hi : c.ix x with
    | some i => if h : c.vis x = true ∧ plainName x = true ∧ kd ks i = .M then some ⟨cV i, fun X F ok => evR_var (ok.ix hi) (ok.vis h.1) h.2.2 (plain_d h.2.1) (plain_c h.2.1)⟩ else none
    | none => none
  | .IfExp t a b pos => (r.t c (frz ks) t).bind fun h => (compR a).bind fun f => (compR b).map fun g => ⟨cIf h.1 f.1 g.1, fun X F ok => evR_if (h.2 X F ok) (f.2 X F ok) (g.2 X F ok)⟩
  | e => (r.n c (frz ks) e).map fun f => ⟨f.1, fun X F ok => (f.2 X F ok).toR⟩
def compSimple : (st : Stmt) → CS T c ks st
  | .Assign [.Name x p] e pos => compName r c ks x p pos e
  | .Assign [.Tuple ts k p] e pos => compTup r c ks ts k p pos e
  | .Assign [.Subscript (.Name x xp) i sp] e pos => compPut r c ks x xp sp pos i e
  | .AugAssign (.Name x p) .Add e pos => match hi : c.ix x with
    | some i => if h : c.loc x = true ∧ c.sto x = true ∧ kd ks i = .F then (r.p c ks e).map fun f => ⟨sAug i f.1, fun X F ok => evS_aug ok.nodup (ok.ix hi) (ok.loc h.1) h.2.2 (f.2 X F ok) (ok.sto x h.2.1)⟩ else none
    | none => none
  | .Expr (.Call (.Attribute (.Name x xp) a ap) [e] [] cp) pos => compApp r c ks x a xp ap cp pos e
  | .Expr (.Constant (.str s) j p) pos => some ⟨sNil, fun X F ok => evS_doc⟩
  | .Return (some e) pos => if c.nw = true then (compR r c ks e).map fun f => ⟨sRetT f.1, fun X F ok => evS_retR (f.2 X F ok)⟩ else (r.e c (frz ks) e).map fun f => ⟨sRet f.1, fun X F ok => evS_ret (f.2 X F ok)⟩
  | .Return none pos => some ⟨sRetN, fun X F ok => evS_retN⟩
  | .Pass pos => some ⟨sNil, fun X F ok => evS_pass⟩
  | _ => none
end
section
variable {T : Tab} (r : Rec T) (c : SC) (ks : Ks)
/-- x = [list(..) for ..] and x[i][j] = e behind it? -/
def nestP : Stmt → Stmt → Bool
  | .Assign [.Name _ _] (.ListComp _ [⟨_, _, [], 0⟩] _ _) _, .Assign [.Subscript (.Subscript (.Name _ _) _ _) _ _] _ _ => true
  | _, _ => false
def compNest : (st st2 : Stmt) → (rest : List Stmt) → { f : SS // ∀ X F, XOk T c X F → EvSs X ks F rest f } → CSs T c ks (st :: st2 :: rest)
  | .Assign [.Name x p0] (.ListComp elt [⟨tg, iter, [], 0⟩] scope lp) pos1, .Assign [.Subscript (.Subscript (.Name y p1) i1 p2) i2 p3] e pos2, rest, g =>
    if hy : y = x then match hi : c.ix x with
      | some i => if h : c.vis x = true ∧ plainName x = true ∧ kd ks i = .M ∧ swB c (.ListComp elt [⟨tg, iter, [], 0⟩] scope lp) x p0 = true ∧ c.scope.names.lookup x = some .local ∧ plainIx i1 = true ∧ plainKey i2 = true then
          (compNL r c ks elt tg iter scope lp).bind fun f => (r.e c ks e).bind fun ge => (r.p c ks i1).bind fun f1 => (r.p c ks i2).map fun f2 => ⟨sNest i f.1 f1.1 f2.1 ge.1 g.1, fun X F ok => by
            subst hy
            exact evSs_nest ok.nodup (ok.ix hi) (ok.vis h.1) (plain_d h.2.1) (plain_c h.2.1) h.2.2.1 (by rw [ok.sc]; exact h.2.2.2.2.1) (by rw [swap_name ok, h.2.2.2.1]) (f.2 X F ok) (ge.2 X F ok) (f1.2 X F ok) (f2.2 X F ok) h.2.2.2.2.2.1 h.2.2.2.2.2.2 (swap_sub _ _ _) (sw_sub _ _) (g.2 X F ok)⟩
        else none
      | none => none
    else none
  | _, _, _, _ => none
end
theorem dn_iter {x : Str} {p : Pos} (env : PySem.Env) : ∀ y, foldedSetIterable (.Name x p) env y = pure y := fun _ => rfl
mutual
noncomputable def compSt {T : Tab} (r : Rec T) (c : SC) : Nat → (ks : Ks) → (st : Stmt) → CS T c ks st
  | 0, _, _ => none
  | n + 1, ks, .If t a b pos => (r.t c ks t).bind fun h => (compSs r c n ks a).bind fun f => (compSs r c n ks b).map fun g => ⟨sIf h.1 f.1 g.1, fun X F ok => evS_if (h.2 X F ok) (f.2 X F ok) (g.2 X F ok)⟩
  | n + 1, ks, .While t b [] pos => (r.t c ks t).bind fun h => (compSs r c n ks b).map fun f => ⟨sWhile h.1 f.1, fun X F ok => evS_while ok.own (h.2 X F ok) (f.2 X F ok)⟩
  | n + 1, ks, .For tg (.Name x p) b [] pos =>
    if T.dn c.N x = true then
      match hi : c.ix x with
      | some i => if h : c.vis x = true ∧ plainName x = true ∧ (kd ks i = .F ∨ kd ks i = .B) then
          (compG (T := T) c ks 20 tg).bind fun g => (compSs r c n ks b).map fun f =>
            ⟨sFor (cKeys i) g.1.2 f.1, fun X F ok => evS_forD ok.own ok.calm (ok.ix hi) (ok.vis h.1) (plain_d h.2.1) (plain_c h.2.1) h.2.2 (g.2.1 X F ok) g.2.2.1 g.2.2.2 (f.2 X F ok) (dn_iter X.env)⟩
        else none
      | none => none
    else
      (r.i c (demote (slotsOf c (.Name x p)) 0 ks) tg (.Name x p)).bind fun fi => (compG (T := T) c (demote (slotsOf c (.Name x p)) 0 ks) 20 tg).bind fun g => (compSs r c n (demote (slotsOf c (.Name x p)) 0 ks) b).map fun f =>
        ⟨sFor fi.1 g.1.2 f.1, fun X F ok => evS_for ok.own ok.calm (dem_demote _ ks 0) (fi.2 X F ok) (g.2.1 X F ok) g.2.2.1 g.2.2.2 (f.2 X F ok) (dn_iter X.env)⟩
  | n + 1, ks, .For tg iter b [] pos =>
    if h : plainIter iter = true then
      (r.i c (demote (slotsOf c iter) 0 ks) tg iter).bind fun fi => (compG (T := T) c (demote (slotsOf c iter) 0 ks) 20 tg).bind fun g => (compSs r c n (demote (slotsOf c iter) 0 ks) b).map fun f =>
        ⟨sFor fi.1 g.1.2 f.1, fun X F ok => evS_for ok.own ok.calm (dem_demote _ ks 0) (fi.2 X F ok) (g.2.1 X F ok) g.2.2.1 g.2.2.2 (f.2 X F ok) (plainIter_ok h X.env)⟩
    else none
  | n + 1, ks, st => compSimple r c ks st
noncomputable def compSs {T : Tab} (r : Rec T) (c : SC) : Nat → (ks : Ks) → (sts : List Stmt) → CSs T c ks sts
  | 0, _, _ => none
  | n + 1, ks, [] => some ⟨sNil, fun X F ok => evSs_nil⟩
  | n + 1, ks, [st] => (compSt r c n ks st).bind fun f => (compSs r c n ks []).map fun g => ⟨sSeq f.1 g.1, fun X F ok => evSs_cons (f.2 X F ok) (g.2 X F ok)⟩
  | n + 1, ks, st :: st2 :: sts => if nestP st st2 = true then (compSs r c n ks sts).bind fun g => compNest r c ks st st2 sts g
    else (compSt r c n ks st).bind fun f => (compSs r c n ks (st2 :: sts)).map fun g => ⟨sSeq f.1 g.1, fun X F ok => evSs_cons (f.2 X F ok) (g.2 X F ok)⟩
end
/-- a def's body -/
noncomputable def compB (T : Tab) (N : List Str) (ks : Ks) (nw : Bool) (sc : Scope) (body : List Stmt) : CSs T ⟨N, sc, true, [], nw⟩ ks body := compSs (comp T 40) ⟨N, sc, true, [], nw⟩ 60 ks body
end RE
/-! RE20: all defs of a text at once; the law's end. -/
namespace RE
open PySem PySem.Spec PyProof.Rows L2

/-- a def of the text with its function of trees -/
structure DRow (Tb : Tab) where
  x : Str
  params : Arguments
  body : List Stmt
  sc : Scope
  N : List Str
  ps : List Str
  d : DefS
  S : FnScope N ps sc
  np : d.np = ps.length
  nn : d.nn = N.length
  par : okPar d.ks d.np = true
  len : (d.ks.take d.np).length = d.np
  bnd : ∀ (kV doc pm : Value) (an : Option Addr) (cdv ct : Value) (us : List Value), us.length = ps.length → bindArgs (PySem.W.fnOf x x params body sc .none kV doc pm an cdv ct) ⟨us, []⟩ = pure (ps.zip us)
  cmp : (compB Tb N d.ks d.nw sc body).map Subtype.val = some d.body
variable {Tb : Tab}
def DT (rows : List (DRow Tb)) (x : Str) : Option DefS := (rows.find? fun r => decide (r.x = x)).map (·.d)
def fnsOf (rows : List (DRow Tb)) : List (Str × Sig) := rows.map fun r => (r.x, ⟨r.d.ks.take r.d.np, r.d.nw⟩)
theorem fns_find {rows : List (DRow Tb)} {x : Str} {pk : Sig} (h : (fnsOf rows).lookup x = some pk) : ∃ r ∈ rows, r.x = x ∧ pk = ⟨r.d.ks.take r.d.np, r.d.nw⟩ ∧ DT rows x = some r.d := by
  unfold fnsOf at h
  unfold DT
  induction rows with
  | nil => cases h
  | cons r rows ih =>
    rw [List.map_cons, List.lookup_cons] at h
    by_cases e : r.x = x
    · subst e
      simp only [beq_self_eq_true] at h
      cases h
      exact ⟨r, List.mem_cons_self, rfl, rfl, by rw [List.find?_cons_of_pos (by simp)]; rfl⟩
    · have e2 : (x == r.x) = false := beq_false_of_ne fun z => e z.symm
      simp only [e2] at h
      obtain ⟨q, hq, h1, h2, h3⟩ := ih h
      exact ⟨q, List.mem_cons_of_mem _ hq, h1, h2, by rw [List.find?_cons_of_neg (by simpa using e)]; exact h3⟩
theorem comp_ok {T : Tab} {N : List Str} {ks : Ks} {nw : Bool} {sc : Scope} {body : List Stmt} {b : SS} (h : (compB T N ks nw sc body).map Subtype.val = some b) {X : Cx} {F : Fn} (ok : XOk T ⟨N, sc, true, [], nw⟩ X F) : EvSs X ks F body b := by
  obtain ⟨f, _, rfl⟩ := Option.map_eq_some_iff.mp h
  exact f.2 X F ok
theorem all_ok {P : Program} {w : World} {K : PySem.W.Frag} {mg : Str → Option Value} {base : Heap} {rows : List (DRow Tb)} (hf : Tb.fns = fnsOf rows)
    (hd : ∀ r ∈ rows, ∃ f fd, FunD K r.x r.x r.params r.body r.sc [] [] f fd ∧ mg r.x = some (.ref f)) (hg : ∀ x d, Tb.glb.lookup x = some d → ∃ v u, constV d = some v ∧ mg x = some u ∧ RelV v u) (hb : ∀ x, x ∈ Tb.blt → mg x = none) :
    ∀ n x pk, Tb.fns.lookup x = some pk → ∃ f fd ps, FnOk P w K mg base CX0 n f fd ps (spF mg pk (lvl (DT rows) n) x) ∧ mg x = some (.ref f) ∧ PySem.W.keepIn K (.ref f) = true ∧ Binds K fd ps [] := by
  intro n
  induction n with
  | zero =>
    intro x pk e
    rw [hf] at e
    obtain ⟨r, hr, rfl, rfl, hx⟩ := fns_find e
    obtain ⟨f, fd, F, hm⟩ := hd r hr
    exact ⟨f, fd, r.ps, fnOk_none fun _ => rfl, hm, F.kp, F.bindsN r.bnd⟩
  | succ n ih =>
    intro x pk e
    rw [hf] at e
    obtain ⟨r, hr, rfl, rfl, hx⟩ := fns_find e
    obtain ⟨f, fd, F, hm⟩ := hd r hr
    refine ⟨f, fd, r.ps, fnOk_succ hx F r.S r.np r.nn r.par r.len fun cdv A outer s H E hroom => ?_, hm, F.kp, F.bindsN r.bnd⟩
    refine comp_ok r.cmp ?_
    refine ⟨rfl, r.S.nd, rfl, rfl, PassesOwn.never, ?_, r.S.kind, fun _ _ => .inl rfl, fun g pk e2 => ?_, hg, hb⟩
    · have := hroom.un
      show (A.deeper _).units + 128 < cLine
      omega
    · obtain ⟨f2, fd2, ps2, h1, h2, h3, h4⟩ := ih g pk e2
      exact ⟨f2, fd2, ps2, n, h1, hroom, h2, h3, h4⟩

theorem glb_all {l : List (Str × D)} {mg : Str → Option Value} (h : ∀ p ∈ l, ∃ v u, constV p.2 = some v ∧ mg p.1 = some u ∧ RelV v u) : ∀ x d, l.lookup x = some d → ∃ v u, constV d = some v ∧ mg x = some u ∧ RelV v u := fun x d e => h (x, d) (PySem.mem_of_lookup e)
theorem law_fn {P : Program} {w : World} {K : PySem.W.Frag} {mg : Str → Option Value} {base : Heap} {rows : List (DRow Tb)} {r : DRow Tb} {f : Addr} {fd : FuncData} {n : Nat} {pk : Sig} {ps : List Str} (hf : Tb.fns = fnsOf rows)
    (hd : ∀ r ∈ rows, ∃ f fd, FunD K r.x r.x r.params r.body r.sc [] [] f fd ∧ mg r.x = some (.ref f)) (hg : ∀ x d, Tb.glb.lookup x = some d → ∃ v u, constV d = some v ∧ mg x = some u ∧ RelV v u) (hb : ∀ x, x ∈ Tb.blt → mg x = none)
    (hl : Tb.fns.lookup r.x = some pk ∧ DT rows r.x = some r.d ∧ pk = ⟨r.d.ks.take r.d.np, r.d.nw⟩ ∧ ps = r.ps) (F : FunD K r.x r.x r.params r.body r.sc [] [] f fd) :
    FnOk P w K mg base CX0 n f fd ps (spF mg pk (lvl (DT rows) n) r.x) := by
  obtain ⟨h1, h2, rfl, rfl⟩ := hl
  cases n with
  | zero => exact fnOk_none fun _ => rfl
  | succ n =>
    refine fnOk_succ h2 F r.S r.np r.nn r.par r.len fun cdv A outer s H E hroom => ?_
    refine comp_ok r.cmp ?_
    refine ⟨rfl, r.S.nd, rfl, rfl, PassesOwn.never, ?_, r.S.kind, fun _ _ => .inl rfl, fun g pk e2 => ?_, hg, hb⟩
    · have := hroom.un
      show (A.deeper _).units + 128 < cLine
      omega
    · obtain ⟨f2, fd2, ps2, h1, h2, h3, h4⟩ := all_ok (P := P) (w := w) (base := base) hf hd hg hb n g pk e2
      exact ⟨f2, fd2, ps2, n, h1, hroom, h2, h3, h4⟩

/-! ### only the defs and their code are taken as known -/
def passO (o : Obj) : Bool := match o.data with
  | .func _ => true
  | .fields _ => true
  | _ => false
open Classical in
noncomputable def filt (K : PySem.W.Frag) : PySem.W.Frag := K.filter fun q => decide (passO q.2 = true ∧ K.lookup q.1 = some q.2)
theorem mem_look {l : List (Addr × Obj)} {a : Addr} {o : Obj} (h : l.lookup a = some o) : (a, o) ∈ l := by
  induction l with
  | nil => cases h
  | cons q l ih =>
    obtain ⟨b, x⟩ := q
    rw [List.lookup_cons] at h
    cases hb : a == b with
    | true =>
      rw [hb] at h
      cases h
      have : a = b := by simpa using hb
      rw [this]
      exact List.mem_cons_self
    | false =>
      rw [hb] at h
      exact List.mem_cons_of_mem _ (ih h)
open Classical in
theorem filt_some {K : PySem.W.Frag} {a : Addr} {o : Obj} (h : (filt K).lookup a = some o) : passO o = true ∧ K.lookup a = some o := by
  have m := mem_look h
  unfold filt at m
  have := (List.mem_filter.mp m).2
  exact of_decide_eq_true this
open Classical in
theorem filt_of {K : PySem.W.Frag} {a : Addr} {o : Obj} (h : K.lookup a = some o) (p : passO o = true) : (filt K).lookup a = some o := by
  have m : (a, o) ∈ filt K := List.mem_filter.mpr ⟨mem_look h, decide_eq_true ⟨p, h⟩⟩
  cases e : (filt K).lookup a with
  | none =>
    exfalso
    have : ∀ l : List (Addr × Obj), (a, o) ∈ l → l.lookup a ≠ none := by
      intro l
      induction l with
      | nil => intro z; cases z
      | cons q l ih =>
        intro z
        obtain ⟨b, x⟩ := q
        rw [List.lookup_cons]
        cases hb : a == b with
        | true => intro y; cases y
        | false =>
          rcases List.mem_cons.mp z with y | y
          · cases y; simp at hb
          · exact ih y
    exact this _ m e
  | some o' =>
    have := (filt_some e).2
    rw [h] at this
    rw [this]
theorem filt_in {K : PySem.W.Frag} {h : Heap} (X : K.In h) : (filt K).In h := fun a o e => X a o (filt_some e).2
theorem FunD.filt {K : PySem.W.Frag} {x q : Str} {params : Arguments} {body : List Stmt} {sc : Scope} {f : Addr} {fd : FuncData} (F : FunD K x q params body sc [] [] f fd) : FunD (filt K) x q params body sc [] [] f fd := by
  obtain ⟨⟨oc, od, dV, kV, doc, pm, an, cdv, ct, osl, rfl, lk, hcd, hD, hK⟩, kp⟩ := F
  have lk' := filt_of lk rfl
  refine ⟨⟨oc, od, dV, kV, doc, pm, an, cdv, ct, osl, rfl, lk', ?_, ?_, .inl rfl⟩, ?_⟩
  · unfold PySem.W.codeIn at hcd ⊢
    cases cdv with
    | ref c =>
      simp only at hcd ⊢
      cases e : K.lookup c with
      | none => rw [e] at hcd; cases hcd
      | some o =>
        rw [e] at hcd
        obtain ⟨cls, dict, data, slots⟩ := o
        cases data <;> simp only at hcd <;> first | (cases hcd; done) | skip
        rw [filt_of e rfl]
        exact hcd
    | _ => cases hcd
  · rcases hD with ⟨h1, h2⟩ | ⟨h1, _⟩
    · exact .inl ⟨h1, h2⟩
    · exact absurd rfl h1
  · unfold PySem.W.keepIn
    simp only
    rw [lk']
theorem scr_rep {K : PySem.W.Frag} {H : Hp} {a : Addr} {ns : List Int} (ho : Only H) (hs : SqL (filt K) H a (ns.map V.int)) : Rep (fun _ => True) H (.scr ns) (.ref a) := by
  simp only [Rep]
  rcases hs with (h | ⟨o, h⟩) | ⟨o, its, n, h1, _, _, h2, _⟩
  · rcases ho a with z | ⟨ob, xs, z⟩ <;> (rw [h] at z; cases z)
  · exact ⟨a, o, rfl, h⟩
  · have := (filt_some h1).1
    unfold passO at this
    rw [h2] at this
    cases this
/-- the law's promise, at the end -/
theorem law_sp {K : PySem.W.Frag} {mg : Str → Option Value} {F : Fn} {H : Hp} {a : Addr} {ns : List Int} {f : Str} {E : XK} (ho : Only H) (hs : SqL (filt K) H a (ns.map V.int)) (h : F f [.scr ns] = some (.bl true)) : spF mg ⟨[.F], false⟩ F f [.ref a] H (fun v _ => v = .bl true) E :=
  ⟨fun _ => True, [.scr ns], .bl true, fun _ _ => trivial, ⟨.ref a, [], rfl, scr_rep ho hs, rfl⟩, rfl, h, fun v H' s r _ => by simpa only [Rep] using r⟩
/-- a def's end -/
def fin (nw : Bool) : Res → Option D
  | .rt b v => if (nw && !b) = true then none else some v
  | .nx _ => some .non
end RE
namespace L
open PySem PySem.Spec PyProof.Rows L2 RE
abbrev rw0 : PySem.W.OpenLaw := PySem.Challenge.rw_rigeyes_k17_whole_sight
def top (i : Nat) : Stmt := rw0.prog.main.body.getD i (.Pass ⟨0, 0, 0, 0⟩)
def tab : Tab := ⟨[("signed", ⟨[.F, .F], false⟩), ("cells", ⟨[.F], false⟩), ("side_of", ⟨[.F, .F, .F], false⟩), ("is_barred", ⟨[.F, .F, .F], false⟩), ("sees", ⟨[.F, .F, .F], false⟩), ("seen_from", ⟨[.F, .F], false⟩), ("_law_cell", ⟨[.F, .F], false⟩), ("_law_draws", ⟨[.F, .F, .F, .F], false⟩), ("_law_room", ⟨[.F], false⟩), ("_law_signed", ⟨[.F, .F, .F], false⟩), ("_law_pairs", ⟨[.F], false⟩), ("law", ⟨[.F], false⟩)], [], ["range", "len", "max", "min", "any", "int", "tuple", "list", "sorted"], [], []⟩
noncomputable def b_signed : SS := sSeq (sRet (cLc2 [2, 3] [3] (cRng1 (cCall (op1 lenD) (cCons (cIx (cV 0) (cC (.int 0))) (cNil)))) (gN 2) (cTrue) (cRng1 (cCall (op1 lenD) (cCons (cV 0) (cNil)))) (gN 3) (cBT eqD (cIx (cIx (cV 0) (cV 3)) (cV 2)) (cV 1)) (cTup (cCons (cV 2) (cCons (cV 3) (cNil)))))) (sNil)
noncomputable def r_signed : DRow tab where
  x := "signed"
  params := defArgs (top 1)
  body := defBody (top 1)
  sc := defScope (top 1)
  N := ["room", "sign", "x", "y"]
  ps := ["room", "sign"]
  d := ⟨2, 4, [.F, .F, .F, .F], false, b_signed⟩
  S := ⟨by kernel_rfl, by kernel_rfl, by kernel_rfl, by decide +kernel, rfl, by decide +kernel, by decide +kernel⟩
  np := rfl
  nn := rfl
  par := rfl
  len := rfl
  bnd := fun _ _ _ _ _ _ us hl => match us, hl with | [_, _], _ => rfl
  cmp := by kernel_rfl
noncomputable def b_cells : SS := sSeq (sRet (cFn "signed" (cCons (cV 0) (cCons (cC (.str ".")) (cNil))))) (sNil)
noncomputable def r_cells : DRow tab where
  x := "cells"
  params := defArgs (top 2)
  body := defBody (top 2)
  sc := defScope (top 2)
  N := ["room"]
  ps := ["room"]
  d := ⟨1, 1, [.F], false, b_cells⟩
  S := ⟨by kernel_rfl, by kernel_rfl, by kernel_rfl, by decide +kernel, rfl, by decide +kernel, by decide +kernel⟩
  np := rfl
  nn := rfl
  par := rfl
  len := rfl
  bnd := fun _ _ _ _ _ _ us hl => match us, hl with | [_], _ => rfl
  cmp := by kernel_rfl
noncomputable def b_side_of : SS := sSeq (sRet (cB subD (cB mulD (cB subD (cIx (cV 1) (cC (.int 0))) (cIx (cV 0) (cC (.int 0)))) (cB subD (cIx (cV 2) (cC (.int 1))) (cIx (cV 0) (cC (.int 1))))) (cB mulD (cB subD (cIx (cV 1) (cC (.int 1))) (cIx (cV 0) (cC (.int 1)))) (cB subD (cIx (cV 2) (cC (.int 0))) (cIx (cV 0) (cC (.int 0))))))) (sNil)
noncomputable def r_side_of : DRow tab where
  x := "side_of"
  params := defArgs (top 3)
  body := defBody (top 3)
  sc := defScope (top 3)
  N := ["one", "other", "point"]
  ps := ["one", "other", "point"]
  d := ⟨3, 3, [.F, .F, .F], false, b_side_of⟩
  S := ⟨by kernel_rfl, by kernel_rfl, by kernel_rfl, by decide +kernel, rfl, by decide +kernel, by decide +kernel⟩
  np := rfl
  nn := rfl
  par := rfl
  len := rfl
  bnd := fun _ _ _ _ _ _ us hl => match us, hl with | [_, _, _], _ => rfl
  cmp := by kernel_rfl
noncomputable def b_is_barred : SS := sSeq (sAsg (cTup (cCons (cTup (cCons (cB addD (cB mulD (cC (.int 2)) (cIx (cV 0) (cC (.int 0)))) (cC (.int 1))) (cCons (cB addD (cB mulD (cC (.int 2)) (cIx (cV 0) (cC (.int 1)))) (cC (.int 1))) (cNil)))) (cCons (cTup (cCons (cB addD (cB mulD (cC (.int 2)) (cIx (cV 1) (cC (.int 0)))) (cC (.int 1))) (cCons (cB addD (cB mulD (cC (.int 2)) (cIx (cV 1) (cC (.int 1)))) (cC (.int 1))) (cNil)))) (cNil)))) (gT (gsCons (gN 3) (gsCons (gN 4) (gsNil))))) (sSeq (sFor (cWalk (cTup (cCons (cC (.int 0)) (cCons (cC (.int 1)) (cNil))))) (gN 5) (sSeq (sIf (cOrT (cBT ltD (cCall (op2 max2D) (cCons (cIx (cV 3) (cV 5)) (cCons (cIx (cV 4) (cV 5)) (cNil)))) (cB mulD (cC (.int 2)) (cIx (cV 2) (cV 5)))) (cBT gtD (cCall (op2 min2D) (cCons (cIx (cV 3) (cV 5)) (cCons (cIx (cV 4) (cV 5)) (cNil)))) (cB addD (cB mulD (cC (.int 2)) (cIx (cV 2) (cV 5))) (cC (.int 2))))) (sSeq (sRet (cC (.bl false))) (sNil)) (sNil)) (sNil))) (sSeq (sAsg (cLc2 [8, 9] [9] (cWalk (cTup (cCons (cC (.int 0)) (cCons (cC (.int 2)) (cNil))))) (gN 8) (cTrue) (cWalk (cTup (cCons (cC (.int 0)) (cCons (cC (.int 2)) (cNil))))) (gN 9) (cTrue) (cTup (cCons (cB addD (cB mulD (cC (.int 2)) (cIx (cV 2) (cC (.int 0)))) (cV 8)) (cCons (cB addD (cB mulD (cC (.int 2)) (cIx (cV 2) (cC (.int 1)))) (cV 9)) (cNil))))) (gN 6)) (sSeq (sAsg (cLc [10] (cWalk (cV 6)) (gN 10) (cTrue) (cFn "side_of" (cCons (cV 3) (cCons (cV 4) (cCons (cV 10) (cNil)))))) (gN 7)) (sSeq (sRet (cCh leD leD (cCall (op1 min1D) (cCons (cV 7) (cNil))) (cC (.int 0)) (cCall (op1 max1D) (cCons (cV 7) (cNil))))) (sNil)))))
noncomputable def r_is_barred : DRow tab where
  x := "is_barred"
  params := defArgs (top 4)
  body := defBody (top 4)
  sc := defScope (top 4)
  N := ["one", "other", "wall", "begin", "end", "k", "corners", "sides", "dx", "dy", "corner"]
  ps := ["one", "other", "wall"]
  d := ⟨3, 11, [.F, .F, .F, .F, .F, .F, .F, .F, .F, .F, .F], false, b_is_barred⟩
  S := ⟨by kernel_rfl, by kernel_rfl, by kernel_rfl, by decide +kernel, rfl, by decide +kernel, by decide +kernel⟩
  np := rfl
  nn := rfl
  par := rfl
  len := rfl
  bnd := fun _ _ _ _ _ _ us hl => match us, hl with | [_, _, _], _ => rfl
  cmp := by kernel_rfl
noncomputable def b_sees : SS := sSeq (sRet (cAnd (cB neD (cV 1) (cV 2)) (cNot (cCall (op1 anyD) (cCons (cLc [3] (cWalk (cFn "signed" (cCons (cV 0) (cCons (cC (.str "#")) (cNil))))) (gN 3) (cTrue) (cFn "is_barred" (cCons (cV 1) (cCons (cV 2) (cCons (cV 3) (cNil)))))) (cNil)))))) (sNil)
noncomputable def r_sees : DRow tab where
  x := "sees"
  params := defArgs (top 5)
  body := defBody (top 5)
  sc := defScope (top 5)
  N := ["room", "cell", "other", "wall"]
  ps := ["room", "cell", "other"]
  d := ⟨3, 4, [.F, .F, .F, .F], false, b_sees⟩
  S := ⟨by kernel_rfl, by kernel_rfl, by kernel_rfl, by decide +kernel, rfl, by decide +kernel, by decide +kernel⟩
  np := rfl
  nn := rfl
  par := rfl
  len := rfl
  bnd := fun _ _ _ _ _ _ us hl => match us, hl with | [_, _, _], _ => rfl
  cmp := by kernel_rfl
noncomputable def b_seen_from : SS := sSeq (sRet (cLc [2] (cWalk (cFn "cells" (cCons (cV 0) (cNil)))) (gN 2) (cTr (cFn "sees" (cCons (cV 0) (cCons (cV 1) (cCons (cV 2) (cNil)))))) (cV 2))) (sNil)
noncomputable def r_seen_from : DRow tab where
  x := "seen_from"
  params := defArgs (top 6)
  body := defBody (top 6)
  sc := defScope (top 6)
  N := ["room", "cell", "other"]
  ps := ["room", "cell"]
  d := ⟨2, 3, [.F, .F, .F], false, b_seen_from⟩
  S := ⟨by kernel_rfl, by kernel_rfl, by kernel_rfl, by decide +kernel, rfl, by decide +kernel, by decide +kernel⟩
  np := rfl
  nn := rfl
  par := rfl
  len := rfl
  bnd := fun _ _ _ _ _ _ us hl => match us, hl with | [_, _], _ => rfl
  cmp := by kernel_rfl
noncomputable def b__law_cell : SS := sSeq (sIf (cBT ltD (cV 1) (cCall (op1 lenD) (cCons (cV 0) (cNil)))) (sSeq (sRet (cIx (cV 0) (cV 1))) (sNil)) (sNil)) (sSeq (sIf (cBT eqD (cCall (op1 lenD) (cCons (cV 0) (cNil))) (cC (.int 0))) (sSeq (sRet (cB addD (cB mulD (cC (.int 7919)) (cV 1)) (cC (.int 101)))) (sNil)) (sNil)) (sSeq (sRet (cB addD (cB modD (cIx (cV 0) (cB modD (cV 1) (cCall (op1 lenD) (cCons (cV 0) (cNil))))) (cC (.int 1000003))) (cB mulD (cC (.int 7919)) (cV 1)))) (sNil)))
noncomputable def r__law_cell : DRow tab where
  x := "_law_cell"
  params := defArgs (top 8)
  body := defBody (top 8)
  sc := defScope (top 8)
  N := ["script", "k"]
  ps := ["script", "k"]
  d := ⟨2, 2, [.F, .F], false, b__law_cell⟩
  S := ⟨by kernel_rfl, by kernel_rfl, by kernel_rfl, by decide +kernel, rfl, by decide +kernel, by decide +kernel⟩
  np := rfl
  nn := rfl
  par := rfl
  len := rfl
  bnd := fun _ _ _ _ _ _ us hl => match us, hl with | [_, _], _ => rfl
  cmp := by kernel_rfl
noncomputable def b__law_draws : SS := sSeq (sAsg (cTup (cCons (cC (.int 2147483647)) (cCons (cC (.int 2147483629)) (cCons (cC (.int 2147483587)) (cCons (cC (.int 2147483579)) (cCons (cC (.int 2147483563)) (cCons (cC (.int 2147483549)) (cCons (cC (.int 2147483543)) (cCons (cC (.int 2147483497)) (cNil)))))))))) (gN 4)) (sSeq (sAsg (cFn "_law_cell" (cCons (cV 0) (cCons (cV 1) (cNil)))) (gN 5)) (sSeq (sAsg (cC (.int 0)) (gN 6)) (sSeq (sIf (cBT geD (cV 5) (cB powD (cC (.int 10)) (cC (.int 18)))) (sSeq (sAsg (cV 5) (gN 6)) (sNil)) (sNil)) (sSeq (sSetM 7 (cND (cLst (cNil)))) (sSeq (sFor (cRng1 (cV 2)) (gN 8) (sSeq (sAsg (cB mulD (cB modD (cV 5) (cIx (cV 4) (cB modD (cV 8) (cC (.int 8))))) (cB addD (cC (.int 48271)) (cB mulD (cB mulD (cC (.int 2)) (cV 8)) (cV 8)))) (gN 9)) (sSeq (sAsg (cB addD (cB addD (cV 9) (cB mulD (cB mulD (cC (.int 7919)) (cB addD (cV 8) (cC (.int 1)))) (cB addD (cV 8) (cC (.int 1))))) (cB mulD (cC (.int 104729)) (cV 1))) (gN 9)) (sSeq (sAsg (cB modD (cV 9) (cIx (cV 4) (cB modD (cB addD (cB mulD (cC (.int 3)) (cV 8)) (cV 1)) (cC (.int 8))))) (gN 9)) (sSeq (sAsg (cB modD (cB mulD (cB mulD (cV 9) (cV 9)) (cV 9)) (cIx (cV 4) (cB modD (cB addD (cV 8) (cC (.int 5))) (cC (.int 8))))) (gN 9)) (sSeq (sIf (cBT gtD (cV 6) (cC (.int 0))) (sSeq (sAsg (cV 6) (gN 9)) (sNil)) (sNil)) (sSeq (sApp 7 (cB modD (cV 9) (cV 3))) (sSeq (sAsg (cB fdivD (cV 6) (cV 3)) (gN 6)) (sNil))))))))) (sSeq (sRet (cV 7)) (sNil)))))))
noncomputable def r__law_draws : DRow tab where
  x := "_law_draws"
  params := defArgs (top 9)
  body := defBody (top 9)
  sc := defScope (top 9)
  N := ["script", "k", "many", "base", "primes", "cell", "rest", "row", "j", "mash"]
  ps := ["script", "k", "many", "base"]
  d := ⟨4, 10, [.F, .F, .F, .F, .F, .F, .F, .M, .F, .F], false, b__law_draws⟩
  S := ⟨by kernel_rfl, by kernel_rfl, by kernel_rfl, by decide +kernel, rfl, by decide +kernel, by decide +kernel⟩
  np := rfl
  nn := rfl
  par := rfl
  len := rfl
  bnd := fun _ _ _ _ _ _ us hl => match us, hl with | [_, _, _, _], _ => rfl
  cmp := by kernel_rfl
noncomputable def b__law_room : SS := sSeq (sPar [1, 2] (cCons (cB addD (cC (.int 1)) (cB modD (cIx (cV 0) (cC (.int 0))) (cC (.int 6)))) (cCons (cB addD (cC (.int 1)) (cB modD (cIx (cV 0) (cC (.int 1))) (cC (.int 6)))) (cNil)))) (sSeq (sSetM 3 (cND (cLst (cNil)))) (sSeq (sFor (cRng1 (cV 2)) (gN 4) (sSeq (sAsg (cLc [6] (cRng1 (cV 1)) (gN 6) (cTrue) (cIx (cC (.str ".#")) (cCall (op1 int1D) (cCons (cB eqD (cB modD (cIx (cV 0) (cB addD (cC (.int 2)) (cB modD (cB addD (cB mulD (cC (.int 6)) (cV 4)) (cV 6)) (cC (.int 37))))) (cIx (cLst (cCons (cC (.int 9)) (cCons (cC (.int 3)) (cCons (cC (.int 5)) (cNil))))) (cB modD (cIx (cV 0) (cC (.int 39))) (cC (.int 3))))) (cC (.int 0))) (cNil))))) (gN 5)) (sSeq (sApp 3 (cIf (cBT gtD (cV 4) (cC (.int 0))) (cU (joinD "") (cV 5)) (cB addD (cC (.str ".")) (cU (joinD "") (cSl (cV 5) (cPart (cC (.int 1))) (cNone)))))) (sNil)))) (sSeq (sRet (cCall (op1 tupleD) (cCons (cV 3) (cNil)))) (sNil))))
noncomputable def r__law_room : DRow tab where
  x := "_law_room"
  params := defArgs (top 10)
  body := defBody (top 10)
  sc := defScope (top 10)
  N := ["draws", "wide", "high", "rows", "y", "row", "x"]
  ps := ["draws"]
  d := ⟨1, 7, [.F, .F, .F, .M, .F, .F, .F], false, b__law_room⟩
  S := ⟨by kernel_rfl, by kernel_rfl, by kernel_rfl, by decide +kernel, rfl, by decide +kernel, by decide +kernel⟩
  np := rfl
  nn := rfl
  par := rfl
  len := rfl
  bnd := fun _ _ _ _ _ _ us hl => match us, hl with | [_], _ => rfl
  cmp := by kernel_rfl
noncomputable def b__law_signed : SS := sNest 3 (cNL [4] (cWalk (cV 0)) (gN 4) (cCall (op1 listDD) (cCons (cV 4) (cNil)))) (cIx (cV 1) (cC (.int 1))) (cIx (cV 1) (cC (.int 0))) (cV 2) (sSeq (sRet (cCall (op1 tupleD) (cCons (cLc [4] (cWalk (cV 3)) (gN 4) (cTrue) (cU (joinD "") (cV 4))) (cNil)))) (sNil))
noncomputable def r__law_signed : DRow tab where
  x := "_law_signed"
  params := defArgs (top 11)
  body := defBody (top 11)
  sc := defScope (top 11)
  N := ["room", "cell", "sign", "rows", "row"]
  ps := ["room", "cell", "sign"]
  d := ⟨3, 5, [.F, .F, .F, .M, .F], false, b__law_signed⟩
  S := ⟨by kernel_rfl, by kernel_rfl, by kernel_rfl, by decide +kernel, rfl, by decide +kernel, by decide +kernel⟩
  np := rfl
  nn := rfl
  par := rfl
  len := rfl
  bnd := fun _ _ _ _ _ _ us hl => match us, hl with | [_, _, _], _ => rfl
  cmp := by kernel_rfl
noncomputable def b__law_pairs : SS := sSeq (sAsg (cLst (cNil)) (gN 1)) (sSeq (sFor (cWalk (cFn "cells" (cCons (cV 0) (cNil)))) (gN 2) (sSeq (sAsg (cB addD (cV 1) (cLc [3] (cWalk (cFn "seen_from" (cCons (cV 0) (cCons (cV 2) (cNil))))) (gN 3) (cTrue) (cTup (cCons (cV 2) (cCons (cV 3) (cNil)))))) (gN 1)) (sNil))) (sSeq (sRet (cV 1)) (sNil)))
noncomputable def r__law_pairs : DRow tab where
  x := "_law_pairs"
  params := defArgs (top 12)
  body := defBody (top 12)
  sc := defScope (top 12)
  N := ["room", "found", "one", "other"]
  ps := ["room"]
  d := ⟨1, 4, [.F, .F, .F, .F], false, b__law_pairs⟩
  S := ⟨by kernel_rfl, by kernel_rfl, by kernel_rfl, by decide +kernel, rfl, by decide +kernel, by decide +kernel⟩
  np := rfl
  nn := rfl
  par := rfl
  len := rfl
  bnd := fun _ _ _ _ _ _ us hl => match us, hl with | [_], _ => rfl
  cmp := by kernel_rfl
noncomputable def b_law : SS := sSeq (sFor (cWalk (cTup (cCons (cC (.int 0)) (cCons (cC (.int 2)) (cCons (cC (.int 4)) (cNil)))))) (gN 1) (sSeq (sAsg (cFn "_law_draws" (cCons (cV 0) (cCons (cV 1) (cCons (cC (.int 60)) (cCons (cC (.int 27720)) (cNil)))))) (gN 2)) (sSeq (sAsg (cFn "_law_room" (cCons (cV 2) (cNil))) (gN 3)) (sSeq (sAsg (cTup (cCons (cCall (op1 lenD) (cCons (cIx (cV 3) (cC (.int 0))) (cNil))) (cCons (cFn "_law_pairs" (cCons (cV 3) (cNil))) (cNil)))) (gT (gsCons (gN 4) (gsCons (gN 5) (gsNil))))) (sSeq (sIf (cBT neD (cCall (op1 sortedD) (cCons (cLc [17, 15] (cWalk (cV 5)) (gT (gsCons (gN 17) (gsCons (gN 15) (gsNil)))) (cTrue) (cTup (cCons (cV 15) (cCons (cV 17) (cNil))))) (cNil))) (cV 5)) (sSeq (sRet (cC (.bl false))) (sNil)) (sNil)) (sSeq (sAsg (cCall (op1 tupleD) (cCons (cLc [18] (cWalk (cV 3)) (gN 18) (cTrue) (cU revD (cV 18))) (cNil))) (gN 6)) (sSeq (sAsg (cCall (op1 sortedD) (cCons (cLc [19, 20, 21, 22] (cWalk (cV 5)) (gT (gsCons (gT (gsCons (gN 19) (gsCons (gN 20) (gsNil)))) (gsCons (gT (gsCons (gN 21) (gsCons (gN 22) (gsNil)))) (gsNil)))) (cTrue) (cTup (cCons (cTup (cCons (cB subD (cB subD (cV 4) (cC (.int 1))) (cV 19)) (cCons (cV 20) (cNil)))) (cCons (cTup (cCons (cB subD (cB subD (cV 4) (cC (.int 1))) (cV 21)) (cCons (cV 22) (cNil)))) (cNil))))) (cNil))) (gN 7)) (sSeq (sIf (cBT neD (cFn "_law_pairs" (cCons (cV 6) (cNil))) (cV 7)) (sSeq (sRet (cC (.bl false))) (sNil)) (sNil)) (sSeq (sAsg (cCall (op1 tupleD) (cCons (cLc [13] (cRng1 (cV 4)) (gN 13) (cTrue) (cU (joinD "") (cLc [18] (cWalk (cV 3)) (gN 18) (cTrue) (cIx (cV 18) (cV 13))))) (cNil))) (gN 8)) (sSeq (sIf (cBT neD (cFn "_law_pairs" (cCons (cV 8) (cNil))) (cCall (op1 sortedD) (cCons (cLc [17, 15] (cWalk (cV 5)) (gT (gsCons (gN 17) (gsCons (gN 15) (gsNil)))) (cTrue) (cTup (cCons (cU revD (cV 17)) (cCons (cU revD (cV 15)) (cNil))))) (cNil)))) (sSeq (sRet (cC (.bl false))) (sNil)) (sNil)) (sSeq (sAsg (cTup (cCons (cB modD (cIx (cV 2) (cC (.int 50))) (cV 4)) (cCons (cB modD (cIx (cV 2) (cC (.int 51))) (cCall (op1 lenD) (cCons (cV 3) (cNil)))) (cNil)))) (gN 9)) (sSeq (sPar [10, 11] (cCons (cFn "_law_signed" (cCons (cV 3) (cCons (cV 9) (cCons (cC (.str ".")) (cNil))))) (cCons (cFn "_law_signed" (cCons (cV 3) (cCons (cV 9) (cCons (cC (.str "#")) (cNil))))) (cNil)))) (sSeq (sAsg (cFn "_law_pairs" (cCons (cV 10) (cNil))) (gN 12)) (sSeq (sIf (cBT neD (cLc [23] (cWalk (cV 5)) (gN 23) (cBT notInD (cV 23) (cV 12)) (cV 23)) (cLst (cNil))) (sSeq (sRet (cC (.bl false))) (sNil)) (sNil)) (sSeq (sIf (cAndT (cBT inD (cC (.str ".")) (cU (joinD "") (cV 11))) (cBT neD (cLc [23] (cWalk (cFn "_law_pairs" (cCons (cV 11) (cNil)))) (gN 23) (cBT notInD (cV 23) (cV 5)) (cV 23)) (cLst (cNil)))) (sSeq (sRet (cC (.bl false))) (sNil)) (sNil)) (sSeq (sFor (cWalk (cFn "cells" (cCons (cV 3) (cNil)))) (gT (gsCons (gN 13) (gsCons (gN 14) (gsNil)))) (sSeq (sFor (cWalk (cTup (cCons (cTup (cCons (cB addD (cV 13) (cC (.int 1))) (cCons (cV 14) (cNil)))) (cCons (cTup (cCons (cV 13) (cCons (cB addD (cV 14) (cC (.int 1))) (cNil)))) (cNil))))) (gN 15) (sSeq (sIf (cAndT (cBT inD (cV 15) (cFn "cells" (cCons (cV 3) (cNil)))) (cNotT (cTr (cFn "sees" (cCons (cV 3) (cCons (cTup (cCons (cV 13) (cCons (cV 14) (cNil)))) (cCons (cV 15) (cNil)))))))) (sSeq (sRet (cC (.bl false))) (sNil)) (sNil)) (sNil))) (sNil))) (sSeq (sAsg (cB mulD (cTup (cCons (cB mulD (cC (.str ".")) (cV 4)) (cNil))) (cCall (op1 lenD) (cCons (cV 3) (cNil)))) (gN 16)) (sSeq (sIf (cBT neD (cCall (op1 lenD) (cCons (cFn "_law_pairs" (cCons (cV 16) (cNil))) (cNil))) (cB mulD (cB mulD (cV 4) (cCall (op1 lenD) (cCons (cV 3) (cNil)))) (cB subD (cB mulD (cV 4) (cCall (op1 lenD) (cCons (cV 3) (cNil)))) (cC (.int 1))))) (sSeq (sRet (cC (.bl false))) (sNil)) (sNil)) (sNil))))))))))))))))))) (sSeq (sRet (cC (.bl true))) (sNil))
noncomputable def r_law : DRow tab where
  x := "law"
  params := defArgs (top 13)
  body := defBody (top 13)
  sc := defScope (top 13)
  N := ["script", "at", "draws", "room", "wide", "pairs", "mirrored", "due", "over", "cell", "opened", "shut", "more", "x", "y", "other", "empty", "one", "row", "a", "b", "c", "d", "pair"]
  ps := ["script"]
  d := ⟨1, 24, [.F, .F, .F, .F, .F, .F, .F, .F, .F, .F, .F, .F, .F, .F, .F, .F, .F, .F, .F, .F, .F, .F, .F, .F], false, b_law⟩
  S := ⟨by kernel_rfl, by kernel_rfl, by kernel_rfl, by decide +kernel, rfl, by decide +kernel, by decide +kernel⟩
  np := rfl
  nn := rfl
  par := rfl
  len := rfl
  bnd := fun _ _ _ _ _ _ us hl => match us, hl with | [_], _ => rfl
  cmp := by kernel_rfl
noncomputable def rows : List (DRow tab) := [r_signed, r_cells, r_side_of, r_is_barred, r_sees, r_seen_from, r__law_cell, r__law_draws, r__law_room, r__law_signed, r__law_pairs, r_law]
theorem fns_eq : tab.fns = fnsOf rows := rfl
def d_signed : He.DefD := ⟨("signed", none), "signed", "signed", defArgs (top 1), defBody (top 1), defScope (top 1), [], []⟩
def d_cells : He.DefD := ⟨("cells", none), "cells", "cells", defArgs (top 2), defBody (top 2), defScope (top 2), [], []⟩
def d_side_of : He.DefD := ⟨("side_of", none), "side_of", "side_of", defArgs (top 3), defBody (top 3), defScope (top 3), [], []⟩
def d_is_barred : He.DefD := ⟨("is_barred", none), "is_barred", "is_barred", defArgs (top 4), defBody (top 4), defScope (top 4), [], []⟩
def d_sees : He.DefD := ⟨("sees", none), "sees", "sees", defArgs (top 5), defBody (top 5), defScope (top 5), [], []⟩
def d_seen_from : He.DefD := ⟨("seen_from", none), "seen_from", "seen_from", defArgs (top 6), defBody (top 6), defScope (top 6), [], []⟩
def d__law_cell : He.DefD := ⟨("_law_cell", none), "_law_cell", "_law_cell", defArgs (top 8), defBody (top 8), defScope (top 8), [], []⟩
def d__law_draws : He.DefD := ⟨("_law_draws", none), "_law_draws", "_law_draws", defArgs (top 9), defBody (top 9), defScope (top 9), [], []⟩
def d__law_room : He.DefD := ⟨("_law_room", none), "_law_room", "_law_room", defArgs (top 10), defBody (top 10), defScope (top 10), [], []⟩
def d__law_signed : He.DefD := ⟨("_law_signed", none), "_law_signed", "_law_signed", defArgs (top 11), defBody (top 11), defScope (top 11), [], []⟩
def d__law_pairs : He.DefD := ⟨("_law_pairs", none), "_law_pairs", "_law_pairs", defArgs (top 12), defBody (top 12), defScope (top 12), [], []⟩
def d_law : He.DefD := ⟨("law", none), "law", "law", defArgs (top 13), defBody (top 13), defScope (top 13), [], []⟩
def dfn : List He.DefD := [d_signed, d_cells, d_side_of, d_is_barred, d_sees, d_seen_from, d__law_cell, d__law_draws, d__law_room, d__law_signed, d__law_pairs, d_law]
def dfa : List He.Fa := [.glo "signed", .glo "cells", .glo "side_of", .glo "is_barred", .glo "sees", .glo "seen_from", .glo "_law_cell", .glo "_law_draws", .glo "_law_room", .glo "_law_signed", .glo "_law_pairs", .glo "law", .free "range", .free "len", .free "max", .free "min", .free "any", .free "int", .free "tuple", .free "list", .free "sorted"]
def loose0 : List PySem.Str := ["signed", "cells", "side_of", "is_barred", "sees", "seen_from", "_law_cell", "_law_draws", "_law_room", "_law_signed", "_law_pairs"]
def loose : List PySem.Str := loose0
abbrev R0 : PySem.W.OpenRow := PySem.W.OpenLaw.row rw0
abbrev hk : PySem.W.Hook := He.hookD 4 dfa dfn
def ob (s : PySem.W.SharedT) : He.AlD := He.obsDG 4 dfa dfn (HandSHeadRun.getT s)
theorem ob_eq (s : PySem.W.SharedT) : ob s = hk.obs s.abs := He.obsDG_eq (HandSHeadRun.getT_eq s)
theorem run (w : World) : HandSHeadRun.RunEq R0 (PySem.W.view R0.prog [13]) hk ob 4000 loose w := by
  intro os
  kernel_rfl
theorem facts {P : Program} {w : World} {K : PySem.W.Frag} {h : Heap} {mg : Str → Option Value} {f : Addr} (X : K.In h) (G : h.Ns mainGlobals mg) (hfa : mg ("law" : Str) = some (.ref f)) (c : He.SaysD dfa dfn K) (n : Nat) :
    ∃ fd : FuncData, (∀ (s : Shared) (v : Value), BindsTo s fd ⟨[v], []⟩ [("script", v)]) ∧ ∀ base : Heap, (filt K).In base → base.Ns mainGlobals mg → FnOk P w (filt K) mg base CX0 n f fd ["script"] (spF mg ⟨[.F], false⟩ (lvl (DT rows) n) "law") := by
  have hd : ∀ r ∈ rows, ∃ f fd, FunD (filt K) r.x r.x r.params r.body r.sc [] [] f fd ∧ mg r.x = some (.ref f) := by
    intro r hr
    simp only [rows, List.mem_cons, List.not_mem_nil, or_false] at hr
    rcases hr with rfl | rfl | rfl | rfl | rfl | rfl | rfl | rfl | rfl | rfl | rfl | rfl
    · obtain ⟨fd, F⟩ := c.def_ 0 (d := d_signed) rfl; exact ⟨_, fd, FunD.filt F, He.glo_ok X G (c.fact 0 (f := .glo "signed") rfl)⟩
    · obtain ⟨fd, F⟩ := c.def_ 1 (d := d_cells) rfl; exact ⟨_, fd, FunD.filt F, He.glo_ok X G (c.fact 1 (f := .glo "cells") rfl)⟩
    · obtain ⟨fd, F⟩ := c.def_ 2 (d := d_side_of) rfl; exact ⟨_, fd, FunD.filt F, He.glo_ok X G (c.fact 2 (f := .glo "side_of") rfl)⟩
    · obtain ⟨fd, F⟩ := c.def_ 3 (d := d_is_barred) rfl; exact ⟨_, fd, FunD.filt F, He.glo_ok X G (c.fact 3 (f := .glo "is_barred") rfl)⟩
    · obtain ⟨fd, F⟩ := c.def_ 4 (d := d_sees) rfl; exact ⟨_, fd, FunD.filt F, He.glo_ok X G (c.fact 4 (f := .glo "sees") rfl)⟩
    · obtain ⟨fd, F⟩ := c.def_ 5 (d := d_seen_from) rfl; exact ⟨_, fd, FunD.filt F, He.glo_ok X G (c.fact 5 (f := .glo "seen_from") rfl)⟩
    · obtain ⟨fd, F⟩ := c.def_ 6 (d := d__law_cell) rfl; exact ⟨_, fd, FunD.filt F, He.glo_ok X G (c.fact 6 (f := .glo "_law_cell") rfl)⟩
    · obtain ⟨fd, F⟩ := c.def_ 7 (d := d__law_draws) rfl; exact ⟨_, fd, FunD.filt F, He.glo_ok X G (c.fact 7 (f := .glo "_law_draws") rfl)⟩
    · obtain ⟨fd, F⟩ := c.def_ 8 (d := d__law_room) rfl; exact ⟨_, fd, FunD.filt F, He.glo_ok X G (c.fact 8 (f := .glo "_law_room") rfl)⟩
    · obtain ⟨fd, F⟩ := c.def_ 9 (d := d__law_signed) rfl; exact ⟨_, fd, FunD.filt F, He.glo_ok X G (c.fact 9 (f := .glo "_law_signed") rfl)⟩
    · obtain ⟨fd, F⟩ := c.def_ 10 (d := d__law_pairs) rfl; exact ⟨_, fd, FunD.filt F, He.glo_ok X G (c.fact 10 (f := .glo "_law_pairs") rfl)⟩
    · obtain ⟨fd, F⟩ := c.def_ 11 (d := d_law) rfl; exact ⟨_, fd, FunD.filt F, He.glo_ok X G (c.fact 11 (f := .glo "law") rfl)⟩
  have hg : ∀ x d, tab.glb.lookup x = some d → ∃ v u, constV d = some v ∧ mg x = some u ∧ RelV v u := by
    refine glb_all ?_
    intro p hp
    simp only [tab, List.mem_cons, List.not_mem_nil, or_false] at hp
  have hb : ∀ x, x ∈ tab.blt → mg x = none := by
    intro x hx
    simp only [tab, List.mem_cons, List.not_mem_nil, or_false] at hx
    rcases hx with rfl | rfl | rfl | rfl | rfl | rfl | rfl | rfl | rfl
    · exact He.free_ok X G (c.fact 12 (f := .free "range") rfl)
    · exact He.free_ok X G (c.fact 13 (f := .free "len") rfl)
    · exact He.free_ok X G (c.fact 14 (f := .free "max") rfl)
    · exact He.free_ok X G (c.fact 15 (f := .free "min") rfl)
    · exact He.free_ok X G (c.fact 16 (f := .free "any") rfl)
    · exact He.free_ok X G (c.fact 17 (f := .free "int") rfl)
    · exact He.free_ok X G (c.fact 18 (f := .free "tuple") rfl)
    · exact He.free_ok X G (c.fact 19 (f := .free "list") rfl)
    · exact He.free_ok X G (c.fact 20 (f := .free "sorted") rfl)
  obtain ⟨fd, F⟩ := c.def_ 11 (d := d_law) rfl
  have e := hfa.symm.trans (He.glo_ok X G (c.fact 11 (f := .glo "law") rfl))
  cases e
  have b := FunD.bindsA (ps := ["script"]) F fun _ _ _ _ _ _ us hl => match us, hl with | [_], _ => rfl
  refine ⟨fd, fun s v => b s [v] rfl, fun base _ _ => ?_⟩
  exact law_fn (rows := rows) (r := r_law) fns_eq hd hg hb ⟨by kernel_rfl, by kernel_rfl, rfl, rfl⟩ (FunD.filt F)
theorem v_signed (n : Nat) (x0 x1 : D) : lvl (DT rows) (n + 1) "signed" [x0, x1] = (b_signed (lvl (DT rows) n) [some x0, some x1, none, none]).bind (fin false) := by
  have e : DT rows "signed" = some r_signed.d := by kernel_rfl
  simp only [lvl, e]
  rfl
theorem v_cells (n : Nat) (x0 : D) : lvl (DT rows) (n + 1) "cells" [x0] = (b_cells (lvl (DT rows) n) [some x0]).bind (fin false) := by
  have e : DT rows "cells" = some r_cells.d := by kernel_rfl
  simp only [lvl, e]
  rfl
theorem v_side_of (n : Nat) (x0 x1 x2 : D) : lvl (DT rows) (n + 1) "side_of" [x0, x1, x2] = (b_side_of (lvl (DT rows) n) [some x0, some x1, some x2]).bind (fin false) := by
  have e : DT rows "side_of" = some r_side_of.d := by kernel_rfl
  simp only [lvl, e]
  rfl
theorem v_is_barred (n : Nat) (x0 x1 x2 : D) : lvl (DT rows) (n + 1) "is_barred" [x0, x1, x2] = (b_is_barred (lvl (DT rows) n) [some x0, some x1, some x2, none, none, none, none, none, none, none, none]).bind (fin false) := by
  have e : DT rows "is_barred" = some r_is_barred.d := by kernel_rfl
  simp only [lvl, e]
  rfl
theorem v_sees (n : Nat) (x0 x1 x2 : D) : lvl (DT rows) (n + 1) "sees" [x0, x1, x2] = (b_sees (lvl (DT rows) n) [some x0, some x1, some x2, none]).bind (fin false) := by
  have e : DT rows "sees" = some r_sees.d := by kernel_rfl
  simp only [lvl, e]
  rfl
theorem v_seen_from (n : Nat) (x0 x1 : D) : lvl (DT rows) (n + 1) "seen_from" [x0, x1] = (b_seen_from (lvl (DT rows) n) [some x0, some x1, none]).bind (fin false) := by
  have e : DT rows "seen_from" = some r_seen_from.d := by kernel_rfl
  simp only [lvl, e]
  rfl
theorem v__law_cell (n : Nat) (x0 x1 : D) : lvl (DT rows) (n + 1) "_law_cell" [x0, x1] = (b__law_cell (lvl (DT rows) n) [some x0, some x1]).bind (fin false) := by
  have e : DT rows "_law_cell" = some r__law_cell.d := by kernel_rfl
  simp only [lvl, e]
  rfl
theorem v__law_draws (n : Nat) (x0 x1 x2 x3 : D) : lvl (DT rows) (n + 1) "_law_draws" [x0, x1, x2, x3] = (b__law_draws (lvl (DT rows) n) [some x0, some x1, some x2, some x3, none, none, none, none, none, none]).bind (fin false) := by
  have e : DT rows "_law_draws" = some r__law_draws.d := by kernel_rfl
  simp only [lvl, e]
  rfl
theorem v__law_room (n : Nat) (x0 : D) : lvl (DT rows) (n + 1) "_law_room" [x0] = (b__law_room (lvl (DT rows) n) [some x0, none, none, none, none, none, none]).bind (fin false) := by
  have e : DT rows "_law_room" = some r__law_room.d := by kernel_rfl
  simp only [lvl, e]
  rfl
theorem v__law_signed (n : Nat) (x0 x1 x2 : D) : lvl (DT rows) (n + 1) "_law_signed" [x0, x1, x2] = (b__law_signed (lvl (DT rows) n) [some x0, some x1, some x2, none, none]).bind (fin false) := by
  have e : DT rows "_law_signed" = some r__law_signed.d := by kernel_rfl
  simp only [lvl, e]
  rfl
theorem v__law_pairs (n : Nat) (x0 : D) : lvl (DT rows) (n + 1) "_law_pairs" [x0] = (b__law_pairs (lvl (DT rows) n) [some x0, none, none, none]).bind (fin false) := by
  have e : DT rows "_law_pairs" = some r__law_pairs.d := by kernel_rfl
  simp only [lvl, e]
  rfl
theorem v_law (n : Nat) (x0 : D) : lvl (DT rows) (n + 1) "law" [x0] = (b_law (lvl (DT rows) n) [some x0, none, none, none, none, none, none, none, none, none, none, none, none, none, none, none, none, none, none, none, none, none, none, none]).bind (fin false) := by
  have e : DT rows "law" = some r_law.d := by kernel_rfl
  simp only [lvl, e]
  rfl
end L

open PySem PySem.W PySem.Calls PyProof.Rows in
theorem law_holds (n : Nat) (hr : L2.Room n callerA) (hlaw : ∀ ns : List Int, ns.length ≤ 63 → RE.lvl (RE.DT L.rows) n "law" [RE.D.scr ns] = some (RE.D.bl true)) : PySem.Challenge.rw_rigeyes_k17_whole_sight.Holds := by
  w_on; o_law
  refine HandSHeadRun.head_any (r := L.R0) (q := PySem.W.view L.R0.prog [13]) (H := L.hk) (ob := L.ob) (M := 4000) (loose := L.loose) (d := HandSHeadRun.topDef L.R0.prog 13) (kwd := []) L.ob_eq
    (by kernel_rfl) (fun s => by kernel_rfl) L.run (by kernel_rfl) (by kernel_rfl) (by kernel_rfl) (by rfl) (by first | assumption | decide +kernel) (by decide +kernel) ⟨rfl, rfl, rfl, rfl, rfl, by decide +kernel⟩ ?hw ?hc
  case hw => w_witness2
  case hc =>
    refine L2.walk_ofE (l := L.rw0) (n := 63) (k := n) (x := "script") (CX := L2.CX0) rfl (by decide) (by kernel_rfl) hr ?F (fun _ _ _ _ z => z)
    intro w mg fa h Y G hmg0
    obtain ⟨K, KX, c⟩ := Y
    have hmg : mg ("law" : PySem.Str) = some (.ref fa) := by
      have e : (HandSHeadRun.topDef L.R0.prog 13).name = ("law" : PySem.Str) := by kernel_rfl
      rw [← e]
      exact hmg0
    obtain ⟨fd, hb, hF⟩ := L.facts (P := L.rw0.prog) (w := w) KX G hmg c n
    exact ⟨RE.filt K, fd, _, RE.filt_in KX, hb, fun H a ns hl ho hS => RE.law_sp ho hS (hlaw ns hl), hF⟩
section
open PySem PySem.Spec PyProof.Rows L2 RE
namespace RE
theorem obS {α β : Type} (a : α) (f : α → Option β) : (some a).bind f = f a := (rfl)
theorem omS {α β : Type} (a : α) (f : α → β) : (some a).map f = some (f a) := (rfl)
/-! Part B: evaluation -/
section
variable (F : Fn) (ρ : RE.Env)
@[simp] theorem s_sSeq (f g : SS) : sSeq f g F ρ = (f F ρ).bind fun r => match r with | .nx ρ' => g F ρ' | .rt b d => some (.rt b d) := (rfl)
@[simp] theorem s_sNil : sNil F ρ = some (.nx ρ) := (rfl)
@[simp] theorem s_sRet (f : SE) : sRet f F ρ = (f F ρ).map (.rt false) := (rfl)
@[simp] theorem s_sRetT (f : SE) : sRetT f F ρ = (f F ρ).map (.rt true) := (rfl)
@[simp] theorem s_sIf (c : SB) (f g : SS) : sIf c f g F ρ = (c F ρ).bind fun b => if b then f F ρ else g F ρ := (rfl)
@[simp] theorem s_sAsg (f : SE) (a : SG) : sAsg f a F ρ = (f F ρ).bind fun d => (a d ρ).map .nx := (rfl)
@[simp] theorem s_sPar (is : List Nat) (f : SA) : sPar is f F ρ = (f F ρ).map fun ds => .nx (setAll ρ is ds) := (rfl)
@[simp] theorem s_sSetM (i : Nat) (f : SE) : sSetM i f F ρ = (f F ρ).map fun d => .nx (ρ.set i (some d)) := (rfl)
@[simp] theorem s_cND (f : SE) : cND f F ρ = (f F ρ).bind fun d => if isDic d then none else some d := (rfl)
@[simp] theorem s_cC (d : D) : cC d F ρ = some d := (rfl)
@[simp] theorem s_cB (o : D → D → Option D) (f g : SE) : cB o f g F ρ = (f F ρ).bind fun x => (g F ρ).bind fun y => o x y := (rfl)
@[simp] theorem s_cU (o : D → Option D) (f : SE) : cU o f F ρ = (f F ρ).bind o := (rfl)
@[simp] theorem s_cTup (g : SA) : cTup g F ρ = (g F ρ).bind mkTup := (rfl)
@[simp] theorem s_cLst (g : SA) : cLst g F ρ = (g F ρ).bind mkLst := (rfl)
@[simp] theorem s_cNil : cNil F ρ = some [] := (rfl)
@[simp] theorem s_cCons (f : SE) (g : SA) : cCons f g F ρ = (f F ρ).bind fun d => (g F ρ).bind fun ds => some (d :: ds) := (rfl)
@[simp] theorem s_cCall (o : List D → Option D) (g : SA) : cCall o g F ρ = (g F ρ).bind o := (rfl)
@[simp] theorem s_cFn (f : Str) (g : SA) : cFn f g F ρ = (g F ρ).bind fun ds => F f ds := (rfl)
@[simp] theorem s_cIx (f g : SE) : cIx f g F ρ = (f F ρ).bind fun x => (g F ρ).bind fun y => idxD x y := (rfl)
@[simp] theorem s_cAnd (f g : SE) : cAnd f g F ρ = (f F ρ).bind fun d => (truD d).bind fun b => if b then g F ρ else some d := (rfl)
@[simp] theorem s_cOr (f g : SE) : cOr f g F ρ = (f F ρ).bind fun d => (truD d).bind fun b => if b then some d else g F ρ := (rfl)
@[simp] theorem s_cNot (f : SE) : cNot f F ρ = (f F ρ).bind fun d => (truD d).map fun b => .bl (!b) := (rfl)
@[simp] theorem s_cIf (c : SB) (f g : SE) : cIf c f g F ρ = (c F ρ).bind fun b => if b then f F ρ else g F ρ := (rfl)
@[simp] theorem s_cTr (f : SE) : cTr f F ρ = (f F ρ).bind truD := (rfl)
@[simp] theorem s_cBT (o : D → D → Option D) (f g : SE) : cBT o f g F ρ = ((f F ρ).bind fun x => (g F ρ).bind fun y => o x y).bind boolD := (rfl)
@[simp] theorem s_cAndT (f g : SB) : cAndT f g F ρ = (f F ρ).bind fun b => if b then g F ρ else some false := (rfl)
@[simp] theorem s_cOrT (f g : SB) : cOrT f g F ρ = (f F ρ).bind fun b => if b then some true else g F ρ := (rfl)
@[simp] theorem s_cNotT (f : SB) : cNotT f F ρ = (f F ρ).map (!·) := (rfl)
@[simp] theorem s_cCh (o o' : D → D → Option D) (f g h : SE) : cCh o o' f g h F ρ = (f F ρ).bind fun x => (g F ρ).bind fun y => (o x y).bind fun z => (boolD z).bind fun c => if c then (h F ρ).bind fun w => o' y w else some (.bl false) := (rfl)
@[simp] theorem s_cChT (o o' : D → D → Option D) (f g h : SE) : cChT o o' f g h F ρ = (cCh o o' f g h F ρ).bind boolD := (rfl)
@[simp] theorem s_cSl (f : SE) (g h : SO) : cSl f g h F ρ = (f F ρ).bind fun d => (g F ρ).bind fun l => (h F ρ).bind fun u => slcD l u d := (rfl)
@[simp] theorem s_sFor (fi : SL) (a : SG) (b : SS) : sFor fi a b F ρ = (fi F ρ).bind fun ds => forD a (b F) ds ρ := (rfl)
@[simp] theorem s_cWalk (f : SE) : cWalk f F ρ = (f F ρ).bind walkL := (rfl)
@[simp] theorem s_cLc (own : List Nat) (fi : SL) (a : SG) (t : SB) (e : SE) : cLc own fi a t e F ρ = (fi F ρ).bind fun ds => (lcAll (lcOne a t e F (wipeE ρ own)) ds).bind mkLst := (rfl)
@[simp] theorem s_lcOne (a : SG) (t : SB) (e : SE) (d : D) : lcOne a t e F ρ d = (a d ρ).bind fun ρ' => (t F ρ').bind fun b => if b then (e F ρ').map fun y => [y] else some [] := (rfl)
@[simp] theorem s_cTrue : cTrue F ρ = some true := (rfl)
@[simp] theorem s_sApp (i : Nat) (f : SE) : sApp i f F ρ = (f F ρ).bind fun d => match cV i F ρ with
  | some (.lst xs) => if fits (xs.length + 1) then some (.nx (ρ.set i (some (.lst (xs ++ [d]))))) else none
  | _ => none := (rfl)
@[simp] theorem s_gN (i : Nat) (d : D) : gN i d ρ = some (ρ.set i (some d)) := (rfl)
@[simp] theorem s_gT (b : SGs) (ds : List D) : gT b (.tup ds) ρ = b ds ρ := (rfl)
@[simp] theorem s_gsNil : gsNil [] ρ = some ρ := (rfl)
@[simp] theorem s_gsCons (a : SG) (b : SGs) (d : D) (ds : List D) : gsCons a b (d :: ds) ρ = (a d ρ).bind (b ds) := (rfl)
end
@[simp] theorem s_cV0 (F : Fn) (d : D) (ρ : RE.Env) : cV 0 F (some d :: ρ) = some d := (rfl)
@[simp] theorem s_cVs (F : Fn) (i : Nat) (x : Option D) (ρ : RE.Env) : cV (i + 1) F (x :: ρ) = cV i F ρ := (rfl)
@[simp] theorem s_finR (b : Bool) (v : D) (nw : Bool) : fin nw (.rt b v) = if (nw && !b) = true then none else some v := (rfl)
@[simp] theorem s_finN (ρ : RE.Env) (nw : Bool) : fin nw (.nx ρ) = some .non := (rfl)
@[simp] theorem s_boolD (b : Bool) : boolD (.bl b) = some b := (rfl)
@[simp] theorem s_truB (b : Bool) : truD (.bl b) = some b := (rfl)
@[simp] theorem s_setAll0 {α : Type} (l : List (Option α)) : setAll l [] [] = l := (rfl)
@[simp] theorem s_setAll1 {α : Type} (l : List (Option α)) (i : Nat) (is : List Nat) (d : α) (ds : List α) : setAll l (i :: is) (d :: ds) = setAll (l.set i (some d)) is ds := (rfl)
@[simp] theorem s_op1 (o : D → Option D) (x : D) : op1 o [x] = o x := (rfl)
@[simp] theorem s_op2 (o : D → D → Option D) (x y : D) : op2 o [x, y] = o x y := (rfl)
@[simp] theorem s_abs (i : Int) : absD (.int i) = some (.int (if i < 0 then -i else i)) := (rfl)
@[simp] theorem s_addI (i j : Int) : addD (.int i) (.int j) = some (.int (i + j)) := (rfl)
@[simp] theorem s_subI (i j : Int) : subD (.int i) (.int j) = some (.int (i - j)) := (rfl)
theorem mod_ev {i j : Int} (h : j ≠ 0) : modD (.int i) (.int j) = some (.int (i.fmod j)) := by simp [modD, h]
@[simp] theorem mod_nat (i : Int) (j : Nat) (h : j ≠ 0 := by decide) : modD (.int i) (.int (j : Int)) = some (.int (i.fmod j)) := by simp [modD, h]
theorem fdiv_ev {i j : Int} (h : j ≠ 0) (w : wid j = true) : fdivD (.int i) (.int j) = some (.int (i.fdiv j)) := by simp [fdivD, h, w]
theorem mul_ev {i j : Int} (h : wim i = true) (w : wim j = true) : mulD (.int i) (.int j) = some (.int (i * j)) := by simp [mulD, h, w]
@[simp] theorem eqI (i j : Int) : eqD (.int i) (.int j) = some (.bl (decide (i = j))) := by
  simp [eqD, pd2, pd, eqv, toP, PyData.eqv]
  first | done | (by_cases h : i = j <;> simp [h])
@[simp] theorem neI (i j : Int) : neD (.int i) (.int j) = some (.bl (!decide (i = j))) := by
  simp [neD, pd2, pd, eqv, toP, PyData.eqv]
  first | done | (by_cases h : i = j <;> simp [h])
@[simp] theorem ltI (i j : Int) : ltD (.int i) (.int j) = some (.bl (decide (i < j))) := by
  simp [ltD, cmpOk, isNon, pd2, pd, alk, ltv, toP, PySem.W.alike, PySem.W.dataLt_int]
@[simp] theorem gtI (i j : Int) : gtD (.int i) (.int j) = some (.bl (decide (j < i))) := by
  simp [gtD, cmpOk, isNon, pd2, pd, alk, ltv, toP, PySem.W.alike, PySem.W.dataLt_int]
@[simp] theorem leI (i j : Int) : leD (.int i) (.int j) = some (.bl (decide (i ≤ j))) := by
  simp [leD, cmpOk, isNon, pd2, pd, alk, ltv, toP, PySem.W.alike, PySem.W.dataLt_int]
  first | done | (simp [← Int.not_le]) | omega
@[simp] theorem geI (i j : Int) : geD (.int i) (.int j) = some (.bl (decide (j ≤ i))) := by
  simp [geD, cmpOk, isNon, pd2, pd, alk, ltv, toP, PySem.W.alike, PySem.W.dataLt_int]
  first | done | (simp [← Int.not_le]) | omega
theorem mkTup_ev {ds : List D} (h : fits ds.length = true) : mkTup ds = some (.tup ds) := by simp [mkTup, h]
@[simp] theorem mkTup1 (a : D) : mkTup [a] = some (.tup [a]) := (rfl)
@[simp] theorem mkTup2 (a b : D) : mkTup [a, b] = some (.tup [a, b]) := (rfl)
@[simp] theorem mkTup3 (a b c : D) : mkTup [a, b, c] = some (.tup [a, b, c]) := (rfl)
@[simp] theorem idx_t0 (a : D) (l : List D) : idxD (.tup (a :: l)) (.int 0) = some a := by
  simp only [idxD, L2.atI, List.length_cons]
  simp [L2.ixN]
@[simp] theorem idx_t1 (a b : D) (l : List D) : idxD (.tup (a :: b :: l)) (.int 1) = some b := by
  have : ((1 : Int) < ((a :: b :: l).length : Int)) := by simp only [List.length_cons]; omega
  simp only [idxD, L2.atI, L2.ixN, if_pos (show (0 : Int) ≤ 1 by decide), if_pos this]
  rfl
@[simp] theorem idx_t2 (a b c : D) (l : List D) : idxD (.tup (a :: b :: c :: l)) (.int 2) = some c := by
  have : ((2 : Int) < ((a :: b :: c :: l).length : Int)) := by simp only [List.length_cons]; omega
  simp only [idxD, L2.atI, L2.ixN, if_pos (show (0 : Int) ≤ 2 by decide), if_pos this]
  rfl
end RE
namespace RE
theorem fmod_nn (a b : Nat) : Int.fmod (a : Int) (b : Int) = ((a % b : Nat) : Int) := by
  rw [Int.fmod_eq_emod_of_nonneg _ (by omega)]
  omega
/-- the loop that finds the greatest common divisor, any test that says «other is not 0» of natural numbers -/
theorem gcd_loop (F : Fn) (c : SB) (ρ : RE.Env) (hc : ∀ a b : Nat, c F (some (.int a) :: some (.int b) :: ρ) = some (!decide (b = 0))) : ∀ b a : Nat, ∃ n, whileD (c F) (sSeq (sPar [0, 1] (cCons (cV 1) (cCons (cB modD (cV 0) (cV 1)) (cNil)))) (sNil) F) n (some (.int a) :: some (.int b) :: ρ) = some (.nx (some (.int (Nat.gcd a b : Nat)) :: some (.int 0) :: ρ)) := by
  intro b
  induction b using Nat.strongRecOn with
  | _ b ih =>
    intro a
    by_cases hb : b = 0
    · subst hb
      refine ⟨1, ?_⟩
      rw [whileD, hc]
      simp
    · obtain ⟨n, e⟩ := ih (a % b) (Nat.mod_lt _ (by omega)) b
      refine ⟨n + 1, ?_⟩
      rw [whileD, hc]
      have hm : modD (.int a) (.int b) = some (.int ((a % b : Nat) : Int)) := by rw [mod_ev (by omega), fmod_nn]
      simp only [obS, hb, decide_false, Bool.not_false, if_true]
      have e1 : sSeq (sPar [0, 1] (cCons (cV 1) (cCons (cB modD (cV 0) (cV 1)) (cNil)))) (sNil) F (some (.int a) :: some (.int b) :: ρ) = some (.nx (some (.int b) :: some (.int ((a % b : Nat) : Int)) :: ρ)) := by
        simp [hm]
      rw [e1]
      simp only [obS]
      rw [e, Nat.gcd_comm b, ← Nat.gcd_rec, Nat.gcd_comm]
theorem abs_nat (i : Int) : (if i < 0 then -i else i) = (i.natAbs : Int) := by omega
end RE
namespace RE
/-- a rational number as the text writes it -/
def rt (r : Rat) : D := .tup [.int r.num, .int r.den]
/-- its two numbers are below 2^k -/
def Sz (k : Nat) (r : Rat) : Prop := r.num.natAbs < 2 ^ k ∧ r.den < 2 ^ k
theorem log_lt {n k : Nat} (h : n < 2 ^ k) (hk : 0 < k) : n.log2 < k := by
  by_cases h0 : n = 0
  · subst h0; rw [Nat.log2_zero]; exact hk
  · exact (Nat.log2_lt h0).mpr h
theorem wid_of {i : Int} {k : Nat} (h : i.natAbs < 2 ^ k) (hk : k ≤ 8999) : wid i = true := by
  unfold wid
  have h2 : i.natAbs < 2 ^ (k + 1) := Nat.lt_of_lt_of_le h (Nat.pow_le_pow_right (by omega) (by omega))
  have := log_lt h2 (by omega)
  exact decide_eq_true (by omega)
theorem wim_of {i : Int} {k : Nat} (h : i.natAbs < 2 ^ k) (hk : k ≤ 20000) : wim i = true := by
  unfold wim
  have h2 : i.natAbs < 2 ^ (k + 1) := Nat.lt_of_lt_of_le h (Nat.pow_le_pow_right (by omega) (by omega))
  have := log_lt h2 (by omega)
  exact decide_eq_true (by omega)
theorem mul_sz {i j : Int} {k l : Nat} (h : i.natAbs < 2 ^ k) (g : j.natAbs < 2 ^ l) : (i * j).natAbs < 2 ^ (k + l) := by
  rw [Int.natAbs_mul, Nat.pow_add]
  exact Nat.mul_lt_mul'' h g
theorem add_sz {i j : Int} {k : Nat} (h : i.natAbs < 2 ^ k) (g : j.natAbs < 2 ^ k) : (i + j).natAbs < 2 ^ (k + 1) := by
  rw [Nat.pow_succ]; omega
theorem sub_sz {i j : Int} {k : Nat} (h : i.natAbs < 2 ^ k) (g : j.natAbs < 2 ^ k) : (i - j).natAbs < 2 ^ (k + 1) := by
  rw [Nat.pow_succ]; omega
theorem sz_le {k l : Nat} (h : k ≤ l) {n : Nat} (g : n < 2 ^ k) : n < 2 ^ l := Nat.lt_of_lt_of_le g (Nat.pow_le_pow_right (by omega) h)
theorem Sz.le {k l : Nat} (h : k ≤ l) {r : Rat} (g : Sz k r) : Sz l r := ⟨sz_le h g.1, sz_le h g.2⟩
/-- upper and lower by their signed greatest divisor -/
theorem divInt_parts {u l : Int} (hl : l ≠ 0) : u.fdiv ((Int.gcd u l : Int) * (if 0 < l then 1 else 0 - 1)) = (Rat.divInt u l).num ∧ l.fdiv ((Int.gcd u l : Int) * (if 0 < l then 1 else 0 - 1)) = ((Rat.divInt u l).den : Int) := by
  rw [Rat.num_divInt, Rat.den_divInt, if_neg hl, Int.gcd_comm l u]
  have hg : (0 : Int) < (Int.gcd u l : Int) := by
    have := Int.gcd_pos_iff.mpr (.inr hl : u ≠ 0 ∨ l ≠ 0)
    omega
  have d1 : (Int.gcd u l : Int) ∣ u := Int.gcd_dvd_left ..
  have d2 : (Int.gcd u l : Int) ∣ l := Int.gcd_dvd_right ..
  generalize (Int.gcd u l) = g at *
  obtain ⟨a, rfl⟩ := d1
  obtain ⟨b, rfl⟩ := d2
  have hg0 : (g : Int) ≠ 0 := by omega
  have hb0 : b ≠ 0 := fun z => hl (by rw [z]; simp)
  by_cases hb : 0 < (g : Int) * b
  · have hb1 : 0 < b := by
      rcases Int.lt_or_gt_of_ne hb0 with z | z
      · have := Int.mul_neg_of_pos_of_neg hg z; omega
      · exact z
    rw [if_pos hb, Int.mul_one, Int.sign_eq_one_of_pos hb, Int.one_mul, Int.mul_fdiv_cancel_left _ hg0, Int.mul_fdiv_cancel_left _ hg0, Int.mul_ediv_cancel_left _ hg0]
    refine ⟨rfl, ?_⟩
    rw [Int.natAbs_mul, Int.natAbs_natCast, Nat.mul_div_cancel_left _ (by omega)]
    omega
  · have hb1 : b < 0 := by
      rcases Int.lt_or_gt_of_ne hb0 with z | z
      · exact z
      · have := Int.mul_pos hg z; omega
    have hn : (g : Int) * b < 0 := Int.mul_neg_of_pos_of_neg hg hb1
    rw [if_neg hb, Int.sign_eq_neg_one_of_neg hn]
    have e : (g : Int) * (0 - 1) = -(g : Int) := by omega
    have n0 : -(g : Int) ≠ 0 := by omega
    have e1 : (g : Int) * a = -(g : Int) * (-a) := by rw [Int.neg_mul_neg]
    have e2 : (g : Int) * b = -(g : Int) * (-b) := by rw [Int.neg_mul_neg]
    rw [e]
    constructor
    · rw [e1, Int.mul_fdiv_cancel_left _ n0, Int.neg_mul_neg, Int.neg_one_mul, ← Int.mul_neg, Int.mul_ediv_cancel_left _ hg0]
    · rw [e2, Int.mul_fdiv_cancel_left _ n0, Int.neg_mul_neg, Int.natAbs_mul, Int.natAbs_natCast, Nat.mul_div_cancel_left _ (by omega)]
      omega
theorem divInt_sz {u l : Int} {k : Nat} (hl : l ≠ 0) (h : u.natAbs < 2 ^ k) (g : l.natAbs < 2 ^ k) : Sz k (Rat.divInt u l) := by
  unfold Sz
  rw [Rat.num_divInt, Rat.den_divInt, if_neg hl]
  constructor
  · refine Nat.lt_of_le_of_lt ?_ h
    refine Nat.le_trans (Int.natAbs_ediv_le_natAbs _ _) ?_
    rw [Int.natAbs_mul]
    have : l.sign.natAbs ≤ 1 := by
      rcases Int.lt_trichotomy l 0 with z | z | z
      · rw [Int.sign_eq_neg_one_of_neg z]; decide
      · exact absurd z hl
      · rw [Int.sign_eq_one_of_pos z]; decide
    exact Nat.le_trans (Nat.mul_le_mul_right _ this) (by omega)
  · exact Nat.lt_of_le_of_lt (Nat.div_le_self _ _) g
theorem gcd_le_r {u l : Int} (hl : l ≠ 0) : Int.gcd u l ≤ l.natAbs := by
  have := Int.natAbs_dvd_natAbs.mpr (Int.gcd_dvd_right u l)
  exact Nat.le_of_dvd (by omega) (by simpa using this)
/-- r - s, r + s, r * s, by their numbers -/
theorem sub_parts (r s : Rat) : Rat.divInt (r.num * s.den - s.num * r.den) (r.den * s.den) = r - s := by
  have h1 : (r.den : Int) ≠ 0 := by have := r.den_nz; omega
  have h2 : (s.den : Int) ≠ 0 := by have := s.den_nz; omega
  conv => rhs; rw [← Rat.num_divInt_den r, ← Rat.num_divInt_den s]
  exact (Rat.divInt_sub_divInt _ _ h1 h2).symm
theorem add_parts (r s : Rat) : Rat.divInt (r.num * s.den + s.num * r.den) (r.den * s.den) = r + s := by
  have h1 : (r.den : Int) ≠ 0 := by have := r.den_nz; omega
  have h2 : (s.den : Int) ≠ 0 := by have := s.den_nz; omega
  conv => rhs; rw [← Rat.num_divInt_den r, ← Rat.num_divInt_den s]
  exact (Rat.divInt_add_divInt _ _ h1 h2).symm
theorem mul_parts (r s : Rat) : Rat.divInt (r.num * s.num) (r.den * s.den) = r * s := by
  conv => rhs; rw [← Rat.num_divInt_den r, ← Rat.num_divInt_den s]
  exact (Rat.divInt_mul_divInt _ _).symm
theorem dens_ne (r s : Rat) : (r.den : Int) * s.den ≠ 0 := by
  have h1 : (r.den : Int) ≠ 0 := by have := r.den_nz; omega
  have h2 : (s.den : Int) ≠ 0 := by have := s.den_nz; omega
  exact Int.mul_ne_zero h1 h2
theorem sub_Sz {r s : Rat} {k : Nat} (h : Sz k r) (g : Sz k s) : Sz (2 * k + 1) (r - s) := by
  rw [← sub_parts]
  refine divInt_sz (dens_ne r s) (sub_sz (k := 2 * k) ?_ ?_) (sz_le (k := 2 * k) (by omega) ?_)
  · have := mul_sz h.1 (j := s.den) (l := k) (by simpa using g.2); rwa [show 2 * k = k + k by omega]
  · have := mul_sz g.1 (j := r.den) (l := k) (by simpa using h.2); rwa [show 2 * k = k + k by omega]
  · have := mul_sz (i := r.den) (k := k) (by simpa using h.2) (j := s.den) (l := k) (by simpa using g.2); rwa [show 2 * k = k + k by omega]
theorem add_Sz {r s : Rat} {k : Nat} (h : Sz k r) (g : Sz k s) : Sz (2 * k + 1) (r + s) := by
  rw [← add_parts]
  refine divInt_sz (dens_ne r s) (add_sz (k := 2 * k) ?_ ?_) (sz_le (k := 2 * k) (by omega) ?_)
  · have := mul_sz h.1 (j := s.den) (l := k) (by simpa using g.2); rwa [show 2 * k = k + k by omega]
  · have := mul_sz g.1 (j := r.den) (l := k) (by simpa using h.2); rwa [show 2 * k = k + k by omega]
  · have := mul_sz (i := r.den) (k := k) (by simpa using h.2) (j := s.den) (l := k) (by simpa using g.2); rwa [show 2 * k = k + k by omega]
theorem mul_Sz {r s : Rat} {k l : Nat} (h : Sz k r) (g : Sz l s) : Sz (k + l) (r * s) := by
  rw [← mul_parts]
  exact divInt_sz (dens_ne r s) (mul_sz h.1 g.1) (mul_sz (i := r.den) (k := k) (by simpa using h.2) (j := s.den) (l := l) (by simpa using g.2))
end RE
namespace RE
@[simp] theorem idx_r0 (r : Rat) : idxD (rt r) (.int 0) = some (.int r.num) := idx_t0 _ _
@[simp] theorem idx_r1 (r : Rat) : idxD (rt r) (.int 1) = some (.int r.den) := idx_t1 _ _ _
/-- an integer as a rational -/
theorem rt_int (i : Int) : D.tup [.int i, .int 1] = rt (i : Rat) := by simp [rt]
theorem int_Sz {i : Int} {k : Nat} (h : i.natAbs < 2 ^ k) (hk : 0 < k) : Sz k (i : Rat) := by
  refine ⟨by simpa using h, ?_⟩
  have : (2 : Nat) ^ 1 ≤ 2 ^ k := Nat.pow_le_pow_right (by omega) hk
  simp
  omega
theorem den_na (r : Rat) : ((r.den : Int)).natAbs = r.den := Int.natAbs_natCast _
theorem wim_num {r : Rat} {k : Nat} (h : Sz k r) (hk : k ≤ 20000) : wim r.num = true := wim_of h.1 hk
theorem wim_den {r : Rat} {k : Nat} (h : Sz k r) (hk : k ≤ 20000) : wim (r.den : Int) = true := wim_of (by rw [den_na]; exact h.2) hk
end RE
namespace RE
/-- a point, a way -/
def pt (x y : Rat) : D := .tup [rt x, rt y]
def wy (w : Int × Int) : D := .tup [.int w.1, .int w.2]
/-- the least whole numbers of a direction -/
def dirI (x y : Rat) : Int × Int := ((x.num * y.den).fdiv (Int.gcd (x.num * y.den) (y.num * x.den)), (y.num * x.den).fdiv (Int.gcd (x.num * y.den) (y.num * x.den)))
@[simp] theorem idx_p0 (x y : Rat) : idxD (pt x y) (.int 0) = some (rt x) := idx_t0 _ _
@[simp] theorem idx_p1 (x y : Rat) : idxD (pt x y) (.int 1) = some (rt y) := idx_t1 _ _ _
@[simp] theorem idx_w0 (w : Int × Int) : idxD (wy w) (.int 0) = some (.int w.1) := idx_t0 _ _
@[simp] theorem idx_w1 (w : Int × Int) : idxD (wy w) (.int 1) = some (.int w.2) := idx_t1 _ _ _
theorem num_pos' (r : Rat) : (0 < r.num) ↔ 0 < r := by
  have h1 := @Rat.num_nonneg r
  have h2 := @Rat.num_eq_zero r
  constructor
  · intro h
    have h3 : 0 ≤ r := h1.mp (by omega)
    have h4 : r ≠ 0 := fun z => by have := h2.mpr z; omega
    grind
  · intro h
    have h3 : 0 ≤ r := by grind
    have h4 : r ≠ 0 := by grind
    have h5 := h1.mpr h3
    have h6 : r.num ≠ 0 := fun z => h4 (h2.mp z)
    omega
theorem pt_eq (x y : Rat) : D.tup [rt x, rt y] = pt x y := rfl
theorem wy_eq (a b : Int) : D.tup [.int a, .int b] = wy (a, b) := rfl
end RE
namespace RE
theorem atI_lt {α : Type} {l : List α} {i : Nat} (h : i < l.length) : L2.atI l (i : Int) = some l[i] := by
  unfold L2.atI L2.ixN
  rw [if_pos (by omega), if_pos (by omega)]
  simp [h]
/-- an index within -/
theorem idx_tup {l : List D} {i : Nat} (h : i < l.length) : idxD (.tup l) (.int (i : Int)) = some l[i] := atI_lt h
theorem idx_lst {l : List D} {i : Nat} (h : i < l.length) : idxD (.lst l) (.int (i : Int)) = some l[i] := atI_lt h
theorem idx_scr {l : List Int} {i : Nat} (h : i < l.length) : idxD (.scr l) (.int (i : Int)) = some (.int l[i]) := by
  show (L2.atI l (i : Int)).map D.int = _
  rw [atI_lt h]; rfl
theorem fits_of {n : Nat} (h : n ≤ 100000) : fits n = true := by
  unfold fits
  exact decide_eq_true (Nat.le_trans h (by decide))
theorem mkLst_ev {ds : List D} (h : ds.length ≤ 100000) : mkLst ds = some (.lst ds) := by
  unfold mkLst; rw [fits_of h]; rfl
theorem add_lst {a b : List D} (h : a.length + b.length ≤ 100000) : addD (.lst a) (.lst b) = some (.lst (a ++ b)) := by
  simp only [addD]; rw [fits_of h]; rfl
theorem add_tup {a b : List D} (h : a.length + b.length ≤ 100000) : addD (.tup a) (.tup b) = some (.tup (a ++ b)) := by
  simp only [addD]; rw [fits_of h]; rfl
theorem small_of {j : Nat} (h : j ≤ 100000) : small62 (j : Int) = true := by
  unfold small62
  rw [decide_eq_true (show -(2 ^ 62) ≤ (j : Int) by omega), decide_eq_true (show (j : Int) < 2 ^ 62 by omega)]; rfl
theorem rng1_ev {j : Nat} (h : j ≤ 100000) : rng1D (.int (j : Int)) = some ((List.range j).map fun i => .int (i : Nat)) := by
  simp only [rng1D]
  rw [small_of h]
  simp [rngL]
theorem fmod_rng (a : Int) {b : Int} (h : 0 < b) : 0 ≤ a.fmod b ∧ a.fmod b < b := ⟨Int.fmod_nonneg_of_pos _ h, Int.fmod_lt_of_pos _ h⟩
theorem cut_nat {α : Type} (xs : List α) (a b : Nat) : cutL xs (some (a : Int)) (some (b : Int)) = (xs.drop a).take (b - a) := by
  unfold cutL
  rw [HT.sIx_nat, HT.sIx_nat]
  by_cases ha : a ≤ xs.length
  · rw [Nat.min_eq_left ha]
    by_cases hb : b ≤ xs.length
    · rw [Nat.min_eq_left hb]
    · rw [Nat.min_eq_right (by omega), List.take_of_length_le (by simp), List.take_of_length_le (by simp; omega)]
  · rw [Nat.min_eq_right (a := a) (by omega), List.drop_eq_nil_of_le (Nat.le_refl _), List.drop_eq_nil_of_le (as := xs) (i := a) (by omega)]
    simp
theorem cut_to {α : Type} (xs : List α) (b : Nat) : cutL xs none (some (b : Int)) = xs.take b := by
  unfold cutL
  rw [HT.sIx_nat, HT.sIx_none, List.drop_zero, Nat.sub_zero]
  by_cases hb : b ≤ xs.length
  · rw [Nat.min_eq_left hb]
  · rw [Nat.min_eq_right (by omega), List.take_length, List.take_of_length_le (by omega)]
theorem cut_from {α : Type} (xs : List α) (a : Nat) : cutL xs (some (a : Int)) none = xs.drop a := by
  unfold cutL
  rw [HT.sIx_nat, HT.sIx_none]
  by_cases ha : a ≤ xs.length
  · rw [Nat.min_eq_left ha, List.take_of_length_le (by simp)]
  · rw [Nat.min_eq_right (by omega), List.drop_eq_nil_of_le (Nat.le_refl _), List.drop_eq_nil_of_le (as := xs) (i := a) (by omega)]
    simp
@[simp] theorem s_cNone (F : Fn) (ρ : RE.Env) : cNone F ρ = some none := (rfl)
@[simp] theorem s_lenT (l : List D) : lenD (.tup l) = some (.int l.length) := (rfl)
@[simp] theorem s_lenL (l : List D) : lenD (.lst l) = some (.int l.length) := (rfl)
@[simp] theorem s_lenS (l : List Int) : lenD (.scr l) = some (.int l.length) := (rfl)
@[simp] theorem s_slT (l : List D) (a b : Option Int) : slcD a b (.tup l) = some (.tup (cutL l a b)) := (rfl)
@[simp] theorem s_slL (l : List D) (a b : Option Int) : slcD a b (.lst l) = some (.lst (cutL l a b)) := (rfl)
end RE
namespace RE
@[simp] theorem s_cPart (f : SE) (F : Fn) (ρ : RE.Env) : cPart f F ρ = (f F ρ).bind fun d => (intD d).map some := (rfl)
@[simp] theorem s_intD (i : Int) : intD (.int i) = some i := (rfl)
@[simp] theorem s_cRng1 (f : SE) (F : Fn) (ρ : RE.Env) : cRng1 f F ρ = (f F ρ).bind rng1D := (rfl)
@[simp] theorem s_walkL (l : List D) : walkL (.lst l) = some l := (rfl)
@[simp] theorem s_walkT (l : List D) : walkL (.tup l) = some l := (rfl)
end RE
namespace RE
def natD (i : Nat) : D := .int (i : Int)
theorem nats_of {l : List Int} (h : ∀ x ∈ l, 0 ≤ x) : l.map D.int = (l.map Int.toNat).map natD := by
  rw [List.map_map]
  refine List.map_congr_left fun x hx => ?_
  have := h x hx
  show D.int x = D.int ((x.toNat : Nat) : Int)
  rw [Int.toNat_of_nonneg this]
theorem idx_nat {ds : List Nat} {i : Nat} (h : i < ds.length) : idxD (.lst (ds.map natD)) (.int (i : Int)) = some (natD ds[i]) := by
  rw [idx_lst (by rw [List.length_map]; exact h), List.getElem_map]
theorem idx_natT {ds : List Nat} {i : Nat} (h : i < ds.length) : idxD (.tup (ds.map natD)) (.int (i : Int)) = some (natD ds[i]) := by
  rw [idx_tup (by rw [List.length_map]; exact h), List.getElem_map]
theorem modN (a b : Nat) (hb : b ≠ 0) : modD (natD a) (.int (b : Int)) = some (natD (a % b)) := by
  unfold natD
  rw [mod_nat _ _ hb]
  exact congrArg (fun z => some (D.int z)) (fmod_nn a b)
theorem mod_rng {x : Int} {b : Nat} (hb : b ≠ 0) : ∃ j : Nat, j < b ∧ modD (.int x) (.int (b : Int)) = some (natD j) := by
  have h := fmod_rng x (show (0 : Int) < b by omega)
  refine ⟨(x.fmod b).toNat, by omega, ?_⟩
  rw [mod_nat _ _ hb]
  unfold natD
  rw [Int.toNat_of_nonneg h.1]
theorem cut_natL (ds : List Nat) (lo hi : Option Int) : cutL (ds.map natD) lo hi = (cutL ds lo hi).map natD := by
  unfold cutL
  rw [List.length_map, List.map_take, List.map_drop]
@[simp] theorem s_cEnum (f : SE) (F : Fn) (ρ : RE.Env) : cEnum f F ρ = ((f F ρ).bind walkL).map (enumL 0) := (rfl)
@[simp] theorem s_sPut (j : Nat) (f g : SE) (F : Fn) (ρ : RE.Env) : sPut j f g F ρ = (g F ρ).bind fun v => (cV j F ρ).bind fun o => (f F ρ).bind fun k => (putD o k v).map fun d => .nx (ρ.set j (some d)) := (rfl)
theorem put_lst {l : List D} {i : Nat} (h : i < l.length) (v : D) : putD (.lst l) (.int (i : Int)) v = some (.lst (l.set i v)) := by
  simp only [putD, L2.ixN]
  rw [if_pos (by omega), if_pos (by omega)]
  simp
@[simp] theorem s_revL (l : List D) : revD (.lst l) = some (.lst l.reverse) := (rfl)
@[simp] theorem s_revT (l : List D) : revD (.tup l) = some (.tup l.reverse) := (rfl)
@[simp] theorem s_listL (l : List D) : listDD (.lst l) = some (.lst l) := (rfl)
@[simp] theorem s_listT (l : List D) : listDD (.tup l) = some (.lst l) := (rfl)
@[simp] theorem s_tupleL (l : List D) : tupleD (.lst l) = some (.tup l) := (rfl)
@[simp] theorem s_tupleT (l : List D) : tupleD (.tup l) = some (.tup l) := (rfl)
@[simp] theorem s_isDicLst (l : List D) : isDic (.lst l) = false := (rfl)
@[simp] theorem s_isDicTup (l : List D) : isDic (.tup l) = false := (rfl)
@[simp] theorem s_isDicInt (i : Int) : isDic (.int i) = false := (rfl)
end RE
namespace RE
theorem wipeE_nil (ρ : RE.Env) : wipeE ρ [] = ρ := (rfl)
theorem wipeE_cons (ρ : RE.Env) (v : Nat) (vs : List Nat) : wipeE ρ (v :: vs) = (wipeE ρ vs).set v none := (rfl)
/-- a comprehension whose every turn gives -/
theorem lc_all {one : D → Option (List D)} {f : D → D} : ∀ {l : List D}, (∀ d ∈ l, one d = some [f d]) → lcAll one l = some (l.map f)
  | [], _ => rfl
  | d :: l, h => by
    simp only [lcAll]
    rw [h d List.mem_cons_self, lc_all fun e he => h e (List.mem_cons_of_mem _ he)]
    rfl
theorem lc_flat {one : D → Option (List D)} {f : D → List D} : ∀ {l : List D}, (∀ d ∈ l, one d = some (f d)) → lcAll one l = some (l.flatMap f)
  | [], _ => rfl
  | d :: l, h => by
    simp only [lcAll]
    rw [h d List.mem_cons_self, lc_flat fun e he => h e (List.mem_cons_of_mem _ he)]
    rfl
/-- a comprehension whose turns give something with a property -/
theorem lc_ex {α : Type} {one : D → Option (List D)} {P : α → D → Prop} {f : α → D} : ∀ {l : List α}, (∀ a ∈ l, ∃ y, one (f a) = some [y] ∧ P a y) → ∃ ys : List D, ys.length = l.length ∧ lcAll one (l.map f) = some ys ∧ ∀ y ∈ ys, ∃ a ∈ l, P a y
  | [], _ => ⟨[], rfl, rfl, by simp⟩
  | d :: l, h => by
    obtain ⟨y, h1, h2⟩ := h d List.mem_cons_self
    obtain ⟨ys, g1, g2, g3⟩ := lc_ex (l := l) fun e he => h e (List.mem_cons_of_mem _ he)
    refine ⟨y :: ys, by simp [g1], ?_, ?_⟩
    · simp only [List.map_cons, lcAll]
      rw [h1, g2]; rfl
    · intro z hz
      rcases List.mem_cons.mp hz with rfl | hz
      · exact ⟨d, List.mem_cons_self, h2⟩
      · obtain ⟨a, ha, hp⟩ := g3 z hz
        exact ⟨a, List.mem_cons_of_mem _ ha, hp⟩
end RE
namespace RE
theorem lc_map {α : Type} {one : D → Option (List D)} {f g : α → D} : ∀ {l : List α}, (∀ a ∈ l, one (f a) = some [g a]) → lcAll one (l.map f) = some (l.map g)
  | [], _ => rfl
  | d :: l, h => by
    simp only [List.map_cons, lcAll]
    rw [h d List.mem_cons_self, lc_map fun e he => h e (List.mem_cons_of_mem _ he)]
    rfl
/-- which turns are kept -/
theorem lc_filter {α : Type} {one : D → Option (List D)} {f g : α → D} {p : α → Bool} : ∀ {l : List α}, (∀ a ∈ l, one (f a) = some (if p a then [g a] else [])) → lcAll one (l.map f) = some ((l.filter p).map g)
  | [], _ => rfl
  | d :: l, h => by
    simp only [List.map_cons, lcAll]
    rw [h d List.mem_cons_self, lc_filter fun e he => h e (List.mem_cons_of_mem _ he)]
    cases hp : p d <;> simp [hp]
end RE
namespace RE
/-- a loop by its invariant -/
theorem for_inv {asg : SG} {body : RE.Env → Option Res} (I : Nat → RE.Env → Prop) : ∀ (l : List D) (k : Nat) (ρ : RE.Env), I k ρ → (∀ i (hi : i < l.length) ρ, I (k + i) ρ → ∃ ρ2, ((asg l[i] ρ).bind body) = some (.nx ρ2) ∧ I (k + i + 1) ρ2) → ∃ ρ', forD asg body l ρ = some (.nx ρ') ∧ I (k + l.length) ρ'
  | [], k, ρ, h, _ => ⟨ρ, rfl, h⟩
  | d :: l, k, ρ, h, g => by
    obtain ⟨ρ2, h1, h2⟩ := g 0 (by simp) ρ h
    obtain ⟨ρ', h3, h4⟩ := for_inv I l (k + 1) ρ2 h2 fun i hi ρ hI => by
      have := g (i + 1) (by simpa using hi) ρ (by rw [show k + (i + 1) = k + 1 + i by omega]; exact hI)
      rw [show k + 1 + i + 1 = k + (i + 1) + 1 by omega]
      simpa using this
    refine ⟨ρ', ?_, by rw [List.length_cons, show k + (l.length + 1) = k + 1 + l.length by omega]; exact h4⟩
    obtain ⟨ρ1, e1, e2⟩ := Option.bind_eq_some_iff.mp h1
    have e1 : asg d ρ = some ρ1 := e1
    rw [forD, e1, obS, e2]
    exact h3
/-- the same, where the list may be left early with an answer -/
theorem for_invR {asg : SG} {body : RE.Env → Option Res} (I : Nat → RE.Env → Prop) (R : Res → Prop) : ∀ (l : List D) (k : Nat) (ρ : RE.Env), I k ρ → (∀ i (hi : i < l.length) ρ, I (k + i) ρ → ∃ r, ((asg l[i] ρ).bind body) = some r ∧ ((∃ ρ2, r = .nx ρ2 ∧ I (k + i + 1) ρ2) ∨ ((∃ b v, r = .rt b v) ∧ R r))) → ∃ r, forD asg body l ρ = some r ∧ ((∃ ρ', r = .nx ρ' ∧ I (k + l.length) ρ') ∨ ((∃ b v, r = .rt b v) ∧ R r))
  | [], k, ρ, h, _ => ⟨_, rfl, .inl ⟨ρ, rfl, h⟩⟩
  | d :: l, k, ρ, h, g => by
    obtain ⟨r, h1, h2⟩ := g 0 (by simp) ρ h
    obtain ⟨ρ1, e1, e2⟩ := Option.bind_eq_some_iff.mp h1
    have e1 : asg d ρ = some ρ1 := e1
    rcases h2 with ⟨ρ2, rfl, h2⟩ | ⟨⟨b, v, rfl⟩, h2⟩
    · obtain ⟨r, h3, h4⟩ := for_invR I R l (k + 1) ρ2 h2 fun i hi ρ hI => by
        have := g (i + 1) (by simpa using hi) ρ (by rw [show k + (i + 1) = k + 1 + i by omega]; exact hI)
        rw [show k + 1 + i + 1 = k + (i + 1) + 1 by omega]
        simpa using this
      refine ⟨r, ?_, by rw [List.length_cons, show k + (l.length + 1) = k + 1 + l.length by omega]; exact h4⟩
      rw [forD, e1, obS, e2]
      exact h3
    · refine ⟨.rt b v, ?_, .inr ⟨⟨b, v, rfl⟩, h2⟩⟩
      rw [forD, e1, obS, e2]
      rfl
end RE
namespace RE
theorem eqv_tupC (a b : D) (l m : List D) : eqv (.tup (a :: l)) (.tup (b :: m)) = (eqv a b && eqvL l m) := by simp [eqv, eqvL, toP, toPs, PyData.eqv, PyData.eqvAll]
theorem eqvL_cons (a b : D) (l m : List D) : eqvL (a :: l) (b :: m) = (eqv a b && eqvL l m) := by simp [eqv, eqvL, toPs, PyData.eqvAll]
theorem eqvL_nil : eqvL [] [] = true := by simp [eqvL, toPs, PyData.eqvAll]
theorem eqv_int (i j : Int) : eqv (.int i) (.int j) = decide (i = j) := by
  simp [eqv, toP, PyData.eqv]
  first | done | (by_cases h : i = j <;> simp [h])
theorem pd_tup (n : Nat) (l : List D) : pd (n + 1) (.tup l) = l.all (pd n) := by simp [pd]
theorem pd_int (n : Nat) (i : Int) : pd n (.int i) = true := by cases n <;> simp [pd]
end RE
namespace RE
theorem eqv_rt (r s : Rat) : eqv (rt r) (rt s) = decide (r = s) := by
  simp only [rt, eqv_tupC, eqvL_cons, eqvL_nil, eqv_int, Bool.and_true]
  by_cases h : r = s
  · subst h; simp
  · have : ¬ (r.num = s.num ∧ (r.den : Int) = s.den) := fun z => h (Rat.ext z.1 (by omega))
    rw [decide_eq_false h]
    simp only [Bool.and_eq_false_iff, decide_eq_false_iff_not]
    by_cases h1 : r.num = s.num
    · right; exact fun z => this ⟨h1, z⟩
    · left; exact h1
theorem eqv_pt (a b c d : Rat) : eqv (pt a b) (pt c d) = (decide (a = c) && decide (b = d)) := by
  simp only [pt, eqv_tupC, eqvL_cons, eqvL_nil, eqv_rt, Bool.and_true]
theorem eqv_wy (v w : Int × Int) : eqv (wy v) (wy w) = decide (v = w) := by
  simp only [wy, eqv_tupC, eqvL_cons, eqvL_nil, eqv_int, Bool.and_true]
  by_cases h : v = w
  · subst h; simp
  · have : ¬ (v.1 = w.1 ∧ v.2 = w.2) := fun z => h (Prod.ext z.1 z.2)
    rw [decide_eq_false h]
    simp only [Bool.and_eq_false_iff, decide_eq_false_iff_not]
    by_cases h1 : v.1 = w.1
    · right; exact fun z => this ⟨h1, z⟩
    · left; exact h1
theorem pd_rt (n : Nat) (r : Rat) : pd (n + 1) (rt r) = true := by simp [rt, pd_tup, pd_int]
theorem pd_pt (n : Nat) (a b : Rat) : pd (n + 2) (pt a b) = true := by simp [pt, pd_tup, pd_rt]
theorem pd_wy (n : Nat) (w : Int × Int) : pd (n + 1) (wy w) = true := by simp [wy, pd_tup, pd_int]
theorem eqD_pt (a b c d : Rat) : eqD (pt a b) (pt c d) = some (.bl (decide (a = c) && decide (b = d))) := by
  unfold eqD pd2; rw [pd_pt 62, pd_pt 62, eqv_pt]; rfl
theorem neD_pt (a b c d : Rat) : neD (pt a b) (pt c d) = some (.bl !(decide (a = c) && decide (b = d))) := by
  unfold neD pd2; rw [pd_pt 62, pd_pt 62, eqv_pt]; rfl
theorem eqD_wy (v w : Int × Int) : eqD (wy v) (wy w) = some (.bl (decide (v = w))) := by
  unfold eqD pd2; rw [pd_wy 63, pd_wy 63, eqv_wy]; rfl
theorem neD_wy (v w : Int × Int) : neD (wy v) (wy w) = some (.bl !decide (v = w)) := by
  unfold neD pd2; rw [pd_wy 63, pd_wy 63, eqv_wy]; rfl
theorem gcd_sz {a b : Int} {k : Nat} (ha : a.natAbs < 2 ^ k) (hb : b.natAbs < 2 ^ k) : ((Int.gcd a b : Nat) : Int).natAbs < 2 ^ k := by
  by_cases h : b = 0
  · subst h; simpa using ha
  · have := gcd_le_r (u := a) h
    omega
theorem sub_zero_iff (a b : Rat) : a - b = 0 ↔ b = a := by grind
end RE
namespace RE
/-! things: plain trees with a bound on depth and on nodes -/
mutual
def nd : D → Nat
  | .tup xs => 1 + ndL xs
  | .lst xs => 1 + ndL xs
  | .non => 1
  | .bl _ => 1
  | .int _ => 1
  | .str _ => 1
  | .dic _ _ => 1
  | .scr _ => 1
  | .fn _ => 1
def ndL : List D → Nat
  | [] => 0
  | d :: ds => nd d + ndL ds
end
mutual
def paths : D → List (List Nat)
  | .tup xs => [] :: pathsL 0 xs
  | .lst xs => [] :: pathsL 0 xs
  | .non => [[]]
  | .bl _ => [[]]
  | .int _ => [[]]
  | .str _ => [[]]
  | .dic _ _ => [[]]
  | .scr _ => [[]]
  | .fn _ => [[]]
def pathsL : Nat → List D → List (List Nat)
  | _, [] => []
  | i, d :: ds => (paths d).map (i :: ·) ++ pathsL (i + 1) ds
end
mutual
theorem paths_len : ∀ d : D, (paths d).length = nd d
  | .tup xs => by simp only [paths, nd, List.length_cons, pathsL_len 0 xs]; omega
  | .lst xs => by simp only [paths, nd, List.length_cons, pathsL_len 0 xs]; omega
  | .non => by simp only [paths, nd, List.length_cons, List.length_nil]
  | .bl _ => by simp only [paths, nd, List.length_cons, List.length_nil]
  | .int _ => by simp only [paths, nd, List.length_cons, List.length_nil]
  | .str _ => by simp only [paths, nd, List.length_cons, List.length_nil]
  | .dic _ _ => by simp only [paths, nd, List.length_cons, List.length_nil]
  | .scr _ => by simp only [paths, nd, List.length_cons, List.length_nil]
  | .fn _ => by simp only [paths, nd, List.length_cons, List.length_nil]
theorem pathsL_len : ∀ (i : Nat) (ds : List D), (pathsL i ds).length = ndL ds
  | _, [] => by simp only [pathsL, ndL, List.length_nil]
  | i, d :: ds => by simp only [pathsL, ndL, List.length_append, List.length_map, paths_len d, pathsL_len (i + 1) ds]
end
theorem nd_pos (d : D) : 1 ≤ nd d := by cases d <;> simp only [nd] <;> omega
theorem ndL_app : ∀ a b : List D, ndL (a ++ b) = ndL a + ndL b
  | [], b => by simp only [List.nil_append, ndL]; omega
  | d :: a, b => by simp only [List.cons_append, ndL, ndL_app a b]; omega
theorem ndL_rev : ∀ a : List D, ndL a.reverse = ndL a
  | [] => rfl
  | d :: a => by simp only [List.reverse_cons, ndL_app, ndL, ndL_rev a]; omega
theorem ndL_len : ∀ a : List D, a.length ≤ ndL a
  | [] => by simp
  | d :: a => by have := ndL_len a; have := nd_pos d; simp only [List.length_cons, ndL]; omega
theorem split_at {α : Type} {l : List α} {i : Nat} (h : i < l.length) : l = l.take i ++ l[i] :: l.drop (i + 1) := by
  rw [← List.drop_eq_getElem_cons h, List.take_append_drop]
theorem ndL_at {l : List D} {i : Nat} (h : i < l.length) : ndL l = ndL (l.take i) + nd l[i] + ndL (l.drop (i + 1)) := by
  conv => lhs; rw [split_at h]
  rw [ndL_app]; simp only [ndL]; omega
theorem ndL_set {l : List D} {i : Nat} (h : i < l.length) (v : D) : ndL (l.set i v) + nd l[i] = ndL l + nd v := by
  rw [ndL_at h, List.set_eq_take_append_cons_drop, if_pos h, ndL_app]
  simp only [ndL]; omega
theorem ndL_mem {l : List D} {d : D} (h : d ∈ l) : nd d ≤ ndL l := by
  obtain ⟨i, hi, rfl⟩ := List.getElem_of_mem h
  rw [ndL_at hi]; omega
theorem ndL_take (l : List D) (i : Nat) : ndL (l.take i) + ndL (l.drop i) = ndL l := by
  rw [← ndL_app, List.take_append_drop]
theorem mem_pathsL : ∀ {k : Nat} {l : List D} {p : List Nat}, p ∈ pathsL k l → ∃ (j : Nat) (q : List Nat) (h : j < l.length), p = (k + j) :: q ∧ q ∈ paths l[j]
  | k, [], p, h => by simp only [pathsL, List.not_mem_nil] at h
  | k, d :: l, p, h => by
    simp only [pathsL, List.mem_append, List.mem_map] at h
    rcases h with ⟨q, h1, rfl⟩ | h
    · exact ⟨0, q, by simp, rfl, h1⟩
    · obtain ⟨j, q, hj, e, hq⟩ := mem_pathsL h
      exact ⟨j + 1, q, by simpa using hj, by rw [e]; congr 1; omega, by simpa using hq⟩
/-! depth -/
theorem pd_lst (n : Nat) (l : List D) : pd (n + 1) (.lst l) = l.all (pd n) := by simp [pd]
theorem pd_up : ∀ {m n : Nat} {d : D}, m ≤ n → pd m d = true → pd n d = true
  | m, n, .non, _, _ => by cases n <;> rfl
  | m, n, .bl _, _, _ => by cases n <;> rfl
  | m, n, .int _, _, _ => by cases n <;> rfl
  | m, n, .str _, _, _ => by cases n <;> rfl
  | 0, n, .tup _, _, h => by simp [pd] at h
  | 0, n, .lst _, _, h => by simp [pd] at h
  | m + 1, 0, _, h, _ => by omega
  | m + 1, n + 1, .tup l, h, g => by
    rw [pd_tup, List.all_eq_true] at *
    exact fun x hx => pd_up (by omega) (g x hx)
  | m + 1, n + 1, .lst l, h, g => by
    rw [pd_lst, List.all_eq_true] at *
    exact fun x hx => pd_up (by omega) (g x hx)
  | m, n, .dic _ _, _, h => by cases m <;> simp [pd] at h
  | m, n, .scr _, _, h => by cases m <;> simp [pd] at h
  | m, n, .fn _, _, h => by cases m <;> simp [pd] at h
/-- plain, at most so deep, its texts short -/
def pq : Nat → D → Bool
  | _, .non => true
  | _, .bl _ => true
  | _, .int _ => true
  | _, .str s => decide (s.length ≤ 100)
  | n + 1, .tup xs => xs.all (pq n)
  | n + 1, .lst xs => xs.all (pq n)
  | _, _ => false
theorem pq_tup (n : Nat) (l : List D) : pq (n + 1) (.tup l) = l.all (pq n) := by simp [pq]
theorem pq_lst (n : Nat) (l : List D) : pq (n + 1) (.lst l) = l.all (pq n) := by simp [pq]
theorem pq_int (n : Nat) (i : Int) : pq n (.int i) = true := by cases n <;> simp [pq]
theorem pq_str (n : Nat) (s : Str) : pq n (.str s) = decide (s.length ≤ 100) := by cases n <;> simp [pq]
theorem pq_pd : ∀ {n : Nat} {d : D}, pq n d = true → pd n d = true
  | n, .non, _ => by cases n <;> rfl
  | n, .bl _, _ => by cases n <;> rfl
  | n, .int _, _ => by cases n <;> rfl
  | n, .str _, _ => by cases n <;> rfl
  | 0, .tup _, h => by simp [pq] at h
  | 0, .lst _, h => by simp [pq] at h
  | n + 1, .tup l, h => by
    rw [pq_tup, List.all_eq_true] at h
    rw [pd_tup, List.all_eq_true]
    exact fun x hx => pq_pd (h x hx)
  | n + 1, .lst l, h => by
    rw [pq_lst, List.all_eq_true] at h
    rw [pd_lst, List.all_eq_true]
    exact fun x hx => pq_pd (h x hx)
  | n, .dic _ _, h => by cases n <;> simp [pq] at h
  | n, .scr _, h => by cases n <;> simp [pq] at h
  | n, .fn _, h => by cases n <;> simp [pq] at h
theorem pq_up : ∀ {m n : Nat} {d : D}, m ≤ n → pq m d = true → pq n d = true
  | m, n, .non, _, _ => by cases n <;> rfl
  | m, n, .bl _, _, _ => by cases n <;> rfl
  | m, n, .int _, _, _ => by cases n <;> rfl
  | m, n, .str _, _, h => by rw [pq_str] at *; exact h
  | 0, n, .tup _, _, h => by simp [pq] at h
  | 0, n, .lst _, _, h => by simp [pq] at h
  | m + 1, 0, _, h, _ => by omega
  | m + 1, n + 1, .tup l, h, g => by
    rw [pq_tup, List.all_eq_true] at *
    exact fun x hx => pq_up (by omega) (g x hx)
  | m + 1, n + 1, .lst l, h, g => by
    rw [pq_lst, List.all_eq_true] at *
    exact fun x hx => pq_up (by omega) (g x hx)
  | m, n, .dic _ _, _, h => by cases m <;> simp [pq] at h
  | m, n, .scr _, _, h => by cases m <;> simp [pq] at h
  | m, n, .fn _, _, h => by cases m <;> simp [pq] at h
structure Sm (m k : Nat) (t : D) : Prop where
  d : pq m t = true
  n : nd t ≤ k
theorem Sm.pd {m k : Nat} {t : D} (h : Sm m k t) : pd m t = true := pq_pd h.d
theorem Sm.up {m k m' k' : Nat} {d : D} (h : Sm m k d) (hm : m ≤ m' := by omega) (hk : k ≤ k' := by omega) : Sm m' k' d := ⟨pq_up hm h.d, Nat.le_trans h.n hk⟩
theorem Sm.tup {m k : Nat} {l : List D} (h : ∀ d ∈ l, pq m d = true) (hk : ndL l + 1 ≤ k) : Sm (m + 1) k (.tup l) := ⟨by rw [pq_tup, List.all_eq_true]; exact h, by simp only [nd]; omega⟩
theorem Sm.lst {m k : Nat} {l : List D} (h : ∀ d ∈ l, pq m d = true) (hk : ndL l + 1 ≤ k) : Sm (m + 1) k (.lst l) := ⟨by rw [pq_lst, List.all_eq_true]; exact h, by simp only [nd]; omega⟩
theorem Sm.non (m : Nat) {k : Nat} (h : 1 ≤ k := by omega) : Sm m k .non := ⟨by cases m <;> rfl, h⟩
theorem Sm.bl (m : Nat) {k : Nat} (b : Bool) (h : 1 ≤ k := by omega) : Sm m k (.bl b) := ⟨by cases m <;> rfl, h⟩
theorem Sm.int (m : Nat) {k : Nat} (b : Int) (h : 1 ≤ k := by omega) : Sm m k (.int b) := ⟨by cases m <;> rfl, h⟩
theorem Sm.str (m : Nat) {k : Nat} (b : Str) (hb : b.length ≤ 100 := by decide) (h : 1 ≤ k := by omega) : Sm m k (.str b) := ⟨by rw [pq_str]; exact decide_eq_true hb, h⟩
def natsD (p : List Nat) : List D := p.map natD
def pathD (p : List Nat) : D := .tup (natsD p)
theorem pd_natsD (n : Nat) (p : List Nat) : (natsD p).all (pd n) = true := by
  rw [List.all_eq_true]
  intro x hx
  obtain ⟨i, _, rfl⟩ := List.mem_map.mp hx
  exact pd_int _ _
theorem pd_pathD (p : List Nat) : pd 64 (pathD p) = true := by unfold pathD; rw [pd_tup 63]; exact pd_natsD _ _
/-- is it the empty path? -/
theorem eq_path0 (p : List Nat) : eqD (pathD p) (.tup []) = some (.bl (decide (p = []))) := by
  unfold eqD pd2
  rw [pd_pathD]
  cases p with
  | nil => rfl
  | cons a p =>
    have : eqv (pathD (a :: p)) (.tup []) = false := by simp [pathD, natsD, eqv, toP, toPs, PyData.eqv, PyData.eqvAll]
    rw [this]; rfl
theorem paths_short : ∀ {m : Nat} {d : D} {p : List Nat}, pd m d = true → p ∈ paths d → p.length ≤ m
  | m, .non, p, _, h => by simp only [paths, List.mem_singleton] at h; subst h; simp
  | m, .bl _, p, _, h => by simp only [paths, List.mem_singleton] at h; subst h; simp
  | m, .int _, p, _, h => by simp only [paths, List.mem_singleton] at h; subst h; simp
  | m, .str _, p, _, h => by simp only [paths, List.mem_singleton] at h; subst h; simp
  | m, .dic _ _, p, _, h => by simp only [paths, List.mem_singleton] at h; subst h; simp
  | m, .scr _, p, _, h => by simp only [paths, List.mem_singleton] at h; subst h; simp
  | m, .fn _, p, _, h => by simp only [paths, List.mem_singleton] at h; subst h; simp
  | 0, .tup _, p, h, _ => by simp [pd] at h
  | 0, .lst _, p, h, _ => by simp [pd] at h
  | m + 1, .tup l, p, h, g => by
    simp only [paths, List.mem_cons] at g
    rcases g with rfl | g
    · simp
    · obtain ⟨j, q, hj, rfl, hq⟩ := mem_pathsL g
      rw [pd_tup, List.all_eq_true] at h
      have := paths_short (h _ (List.getElem_mem hj)) hq
      simp only [List.length_cons]; omega
  | m + 1, .lst l, p, h, g => by
    simp only [paths, List.mem_cons] at g
    rcases g with rfl | g
    · simp
    · obtain ⟨j, q, hj, rfl, hq⟩ := mem_pathsL g
      rw [pd_lst, List.all_eq_true] at h
      have := paths_short (h _ (List.getElem_mem hj)) hq
      simp only [List.length_cons]; omega
theorem add_path (i : Nat) (p : List Nat) (h : p.length ≤ 64) : addD (.tup [natD i]) (pathD p) = some (pathD (i :: p)) := by
  unfold pathD
  rw [add_tup (by simp only [natsD, List.length_map, List.length_cons, List.length_nil]; omega)]
  rfl
end RE
namespace RE
def isNumB (lo hi : Int) : D → Bool
  | .int i => decide (lo ≤ i) && decide (i ≤ hi)
  | _ => false
def isSpotB (far : Int) : D → Bool
  | .tup [a, b] => isNumB (0 - far) far a && isNumB (0 - far) far b
  | _ => false
def isDirB : D → Bool
  | .tup [.int a, .int b] => isSpotB 200 (.tup [.int a, .int b]) && decide (Int.gcd a b = 1)
  | _ => false
/-- plain to the top: it has a type that isinstance knows -/
theorem ty_int {m : Nat} {x : D} (h : pd m x = true) : (∃ i, x = .int i) ∨ ((∀ i, x ≠ .int i) ∧ (isiD ["int"] x = some (.bl false) ∨ (isiD ["int"] x = some (.bl true) ∧ isiD ["bool"] x = some (.bl true)))) := by
  cases x with
  | int i => exact .inl ⟨i, rfl⟩
  | non => exact .inr ⟨fun i h => (by cases h), .inl rfl⟩
  | bl b => exact .inr ⟨fun i h => (by cases h), .inr ⟨rfl, rfl⟩⟩
  | str s => exact .inr ⟨fun i h => (by cases h), .inl rfl⟩
  | tup xs => exact .inr ⟨fun i h => (by cases h), .inl rfl⟩
  | lst xs => exact .inr ⟨fun i h => (by cases h), .inl rfl⟩
  | dic _ _ => cases m <;> simp [pd] at h
  | scr _ => cases m <;> simp [pd] at h
  | fn _ => cases m <;> simp [pd] at h
theorem ty_tup {m : Nat} {x : D} (h : pd m x = true) : (∃ xs, x = .tup xs ∧ ∀ y ∈ xs, pd (m - 1) y = true) ∨ ((∀ xs, x ≠ .tup xs) ∧ isiD ["tuple"] x = some (.bl false)) := by
  cases x with
  | int i => exact .inr ⟨fun i h => (by cases h), rfl⟩
  | non => exact .inr ⟨fun i h => (by cases h), rfl⟩
  | bl b => exact .inr ⟨fun i h => (by cases h), rfl⟩
  | str s => exact .inr ⟨fun i h => (by cases h), rfl⟩
  | tup xs =>
    refine .inl ⟨xs, rfl, ?_⟩
    cases m with
    | zero => simp [pd] at h
    | succ m => rw [pd_tup, List.all_eq_true] at h; exact h
  | lst xs => exact .inr ⟨fun i h => (by cases h), rfl⟩
  | dic _ _ => cases m <;> simp [pd] at h
  | scr _ => cases m <;> simp [pd] at h
  | fn _ => cases m <;> simp [pd] at h
theorem isNumB_of {lo hi : Int} {x : D} (h : ∀ i, x ≠ .int i) : isNumB lo hi x = false := by
  cases x <;> first | rfl | exact absurd rfl (h _)
/-- the body of a look at a number -/
theorem num_body (F : Fn) (m : Nat) (x : D) (h : pd m x = true) (lo hi : Int) : ((sSeq (sRet (cAnd (cU (isiD ["int"]) (cV 0)) (cAnd (cNot (cU (isiD ["bool"]) (cV 0))) (cCh leD leD (cV 1) (cV 0) (cV 2))))) (sNil)) F [some x, some (.int lo), some (.int hi)]).bind (fin false) = some (.bl (isNumB lo hi x)) := by
  rcases ty_int h with ⟨i, rfl⟩ | ⟨h1, h2⟩
  · have e1 : isiD ["int"] (.int i) = some (.bl true) := rfl
    have e2 : isiD ["bool"] (.int i) = some (.bl false) := rfl
    by_cases c : lo ≤ i
    · simp only [s_sSeq, s_sNil, s_sRet, s_sRetT, s_sIf, s_sAsg, s_sPar, s_sSetM, s_cND, s_cC, s_cB, s_cU, s_cTup, s_cLst, s_cNil, s_cCons, s_cCall, s_cFn, s_cIx, s_cAnd, s_cOr, s_cNot, s_cIf, s_cTr, s_cBT, s_cAndT, s_cOrT, s_cNotT, s_cCh, s_cChT, s_cSl, s_sFor, s_cWalk, s_cLc, s_lcOne, s_cTrue, s_sApp, s_gN, s_gT, s_gsNil, s_gsCons, s_cV0, s_cVs, s_finR, s_finN, s_boolD, s_truB, s_setAll0, s_setAll1, s_op1, s_op2, s_abs, s_addI, s_subI, eqI, neI, ltI, gtI, leI, geI, mkTup1, mkTup2, mkTup3, idx_t0, idx_t1, idx_t2, obS, omS, List.set_cons_zero, List.set_cons_succ, s_cNone, s_cPart, s_intD, s_cRng1, s_walkL, s_walkT, s_lenT, s_lenL, s_lenS, s_slT, s_slL, if_true, if_false, decide_true, decide_false, Bool.not_true, Bool.not_false, Bool.and_true, Bool.and_false, Bool.true_and, Bool.false_and, Bool.false_eq_true, decide_eq_true_eq, s_cEnum, s_sPut, s_revL, s_revT, s_listL, s_listT, s_tupleL, s_tupleT, s_isDicLst, s_isDicTup, s_isDicInt, wipeE_nil, wipeE_cons, e1, e2, c, isNumB]
    · simp only [s_sSeq, s_sNil, s_sRet, s_sRetT, s_sIf, s_sAsg, s_sPar, s_sSetM, s_cND, s_cC, s_cB, s_cU, s_cTup, s_cLst, s_cNil, s_cCons, s_cCall, s_cFn, s_cIx, s_cAnd, s_cOr, s_cNot, s_cIf, s_cTr, s_cBT, s_cAndT, s_cOrT, s_cNotT, s_cCh, s_cChT, s_cSl, s_sFor, s_cWalk, s_cLc, s_lcOne, s_cTrue, s_sApp, s_gN, s_gT, s_gsNil, s_gsCons, s_cV0, s_cVs, s_finR, s_finN, s_boolD, s_truB, s_setAll0, s_setAll1, s_op1, s_op2, s_abs, s_addI, s_subI, eqI, neI, ltI, gtI, leI, geI, mkTup1, mkTup2, mkTup3, idx_t0, idx_t1, idx_t2, obS, omS, List.set_cons_zero, List.set_cons_succ, s_cNone, s_cPart, s_intD, s_cRng1, s_walkL, s_walkT, s_lenT, s_lenL, s_lenS, s_slT, s_slL, if_true, if_false, decide_true, decide_false, Bool.not_true, Bool.not_false, Bool.and_true, Bool.and_false, Bool.true_and, Bool.false_and, Bool.false_eq_true, decide_eq_true_eq, s_cEnum, s_sPut, s_revL, s_revT, s_listL, s_listT, s_tupleL, s_tupleT, s_isDicLst, s_isDicTup, s_isDicInt, wipeE_nil, wipeE_cons, e1, e2, c, isNumB]
  · rw [isNumB_of h1]
    rcases h2 with e1 | ⟨e1, e2⟩
    · simp only [s_sSeq, s_sNil, s_sRet, s_sRetT, s_sIf, s_sAsg, s_sPar, s_sSetM, s_cND, s_cC, s_cB, s_cU, s_cTup, s_cLst, s_cNil, s_cCons, s_cCall, s_cFn, s_cIx, s_cAnd, s_cOr, s_cNot, s_cIf, s_cTr, s_cBT, s_cAndT, s_cOrT, s_cNotT, s_cCh, s_cChT, s_cSl, s_sFor, s_cWalk, s_cLc, s_lcOne, s_cTrue, s_sApp, s_gN, s_gT, s_gsNil, s_gsCons, s_cV0, s_cVs, s_finR, s_finN, s_boolD, s_truB, s_setAll0, s_setAll1, s_op1, s_op2, s_abs, s_addI, s_subI, eqI, neI, ltI, gtI, leI, geI, mkTup1, mkTup2, mkTup3, idx_t0, idx_t1, idx_t2, obS, omS, List.set_cons_zero, List.set_cons_succ, s_cNone, s_cPart, s_intD, s_cRng1, s_walkL, s_walkT, s_lenT, s_lenL, s_lenS, s_slT, s_slL, if_true, if_false, decide_true, decide_false, Bool.not_true, Bool.not_false, Bool.and_true, Bool.and_false, Bool.true_and, Bool.false_and, Bool.false_eq_true, decide_eq_true_eq, s_cEnum, s_sPut, s_revL, s_revT, s_listL, s_listT, s_tupleL, s_tupleT, s_isDicLst, s_isDicTup, s_isDicInt, wipeE_nil, wipeE_cons, e1]
    · simp only [s_sSeq, s_sNil, s_sRet, s_sRetT, s_sIf, s_sAsg, s_sPar, s_sSetM, s_cND, s_cC, s_cB, s_cU, s_cTup, s_cLst, s_cNil, s_cCons, s_cCall, s_cFn, s_cIx, s_cAnd, s_cOr, s_cNot, s_cIf, s_cTr, s_cBT, s_cAndT, s_cOrT, s_cNotT, s_cCh, s_cChT, s_cSl, s_sFor, s_cWalk, s_cLc, s_lcOne, s_cTrue, s_sApp, s_gN, s_gT, s_gsNil, s_gsCons, s_cV0, s_cVs, s_finR, s_finN, s_boolD, s_truB, s_setAll0, s_setAll1, s_op1, s_op2, s_abs, s_addI, s_subI, eqI, neI, ltI, gtI, leI, geI, mkTup1, mkTup2, mkTup3, idx_t0, idx_t1, idx_t2, obS, omS, List.set_cons_zero, List.set_cons_succ, s_cNone, s_cPart, s_intD, s_cRng1, s_walkL, s_walkT, s_lenT, s_lenL, s_lenS, s_slT, s_slL, if_true, if_false, decide_true, decide_false, Bool.not_true, Bool.not_false, Bool.and_true, Bool.and_false, Bool.true_and, Bool.false_and, Bool.false_eq_true, decide_eq_true_eq, s_cEnum, s_sPut, s_revL, s_revT, s_listL, s_listT, s_tupleL, s_tupleT, s_isDicLst, s_isDicTup, s_isDicInt, wipeE_nil, wipeE_cons, e1, e2]
theorem blsD_map {α : Type} (f : α → Bool) : ∀ l : List α, blsD (l.map fun a => D.bl (f a)) = some (l.map f)
  | [] => rfl
  | a :: l => by simp only [List.map_cons, blsD, blsD_map f l, omS]
theorem allD_map {α : Type} (f : α → Bool) (l : List α) : allD (.lst (l.map fun a => D.bl (f a))) = some (.bl (l.all f)) := by
  simp only [allD, blsD_map, omS, List.all_map]
  rfl
theorem anyD_map {α : Type} (f : α → Bool) (l : List α) : anyD (.lst (l.map fun a => D.bl (f a))) = some (.bl (l.any f)) := by
  simp only [anyD, blsD_map, omS, List.any_map]
  rfl
theorem mkLst2 (a b : D) : mkLst [a, b] = some (.lst [a, b]) := rfl
theorem allD2 (a b : Bool) : allD (.lst [.bl a, .bl b]) = some (.bl (a && b)) := by simp [allD, blsD]
theorem isSpotB_len {far : Int} {xs : List D} (h : xs.length ≠ 2) : isSpotB far (.tup xs) = false := by
  match xs, h with
  | [], _ => rfl
  | [_], _ => rfl
  | [_, _], h => exact absurd rfl h
  | _ :: _ :: _ :: _, _ => rfl
theorem isSpotB_of {far : Int} {x : D} (h : ∀ xs, x ≠ .tup xs) : isSpotB far x = false := by
  cases x <;> first | rfl | exact absurd rfl (h _)
theorem isDirB_spot {x : D} (h : isSpotB 200 x = false) : isDirB x = false := by
  unfold isDirB
  split
  · rw [h]; rfl
  · rfl
theorem isDirB_int {a b : Int} (h : isSpotB 200 (.tup [.int a, .int b]) = true) : isDirB (.tup [.int a, .int b]) = decide (((Int.gcd a b : Nat) : Int) = 1) := by
  show (isSpotB 200 (.tup [.int a, .int b]) && decide (Int.gcd a b = 1)) = _
  rw [h, Bool.true_and]
  exact decide_eq_decide.mpr (by omega)
theorem isSpotB_int {far : Int} {x : D} (h : isSpotB far x = true) : ∃ a b : Int, x = .tup [.int a, .int b] := by
  unfold isSpotB at h
  split at h
  · rename_i a b
    cases a <;> first | (simp [isNumB] at h; done) | skip
    cases b <;> first | (simp [isNumB] at h; done) | skip
    exact ⟨_, _, rfl⟩
  · cases h
end RE
namespace RE
theorem eq_bl (a b : Bool) : eqD (.bl a) (.bl b) = some (.bl (decide (a = b))) := by
  cases a <;> cases b <;> rfl
end RE
namespace RE
/-! texts -/
def chS (cs : List Nat) : Str := ⟨cs.toArray⟩
def chs (s : Str) : List Nat := s.cps.toList
theorem chs_chS (cs : List Nat) : chs (chS cs) = cs := by simp [chs, chS]
theorem chS_chs (s : Str) : chS (chs s) = s := by simp [chs, chS]
theorem len_chS (cs : List Nat) : (chS cs).length = cs.length := by simp [chS, Str.length]
theorem len_chs (s : Str) : s.length = (chs s).length := by simp [chs, Str.length]
theorem lit_nil : Str.ofString "" = chS [] := by decide +kernel
theorem lit_dot : Str.ofString "." = chS [46] := by decide +kernel
theorem lit_hash : Str.ofString "#" = chS [35] := by decide +kernel
theorem lit_both : Str.ofString ".#" = chS [46, 35] := by decide +kernel
theorem eqv_str (a b : Str) : eqv (.str a) (.str b) = decide (a = b) := by
  simp [eqv, toP, PyData.eqv]
  first | done | (by_cases h : a = b <;> simp [h])
theorem eqS (a b : Str) : eqD (.str a) (.str b) = some (.bl (decide (a = b))) := by
  simp [eqD, pd2, pd, eqv, toP, PyData.eqv]
  first | done | (by_cases h : a = b <;> simp [h])
theorem neS (a b : Str) : neD (.str a) (.str b) = some (.bl (!decide (a = b))) := by
  simp [neD, pd2, pd, eqv, toP, PyData.eqv]
  first | done | (by_cases h : a = b <;> simp [h])
theorem walk_str (s : Str) : walkL (.str s) = some ((chs s).map fun c => .str (chS [c])) := rfl
theorem len_str {s : Str} (h : s.length ≤ 100000) : lenD (.str s) = some (.int (s.length : Nat)) := by
  simp only [lenD]; rw [fits_of h]; rfl
theorem idx_str {s : Str} {i : Nat} (h : i < (chs s).length) (hs : s.length ≤ 100000) : idxD (.str s) (.int (i : Int)) = some (.str (chS [(chs s)[i]])) := by
  simp only [idxD]; rw [fits_of hs]
  show (L2.atI (chs s) (i : Int)).map _ = _
  rw [atI_lt h]; rfl
theorem cat_str {a b : Str} (h : a.length + b.length ≤ 100000) : addD (.str a) (.str b) = some (.str (chS (chs a ++ chs b))) := by
  simp only [addD]; rw [fits_of h]
  refine congrArg (fun z => some (D.str z)) ?_
  rw [← chS_chs (a ++ b)]
  refine congrArg chS ?_
  show (Str.append a b).cps.toList = _
  simp [Str.append, chs]
theorem in_str (c : Nat) (s : Str) : inD (.str (chS [c])) (.str s) = some (.bl (decide (c ∈ chs s))) := rfl
theorem notIn_str (c : Nat) (s : Str) : notInD (.str (chS [c])) (.str s) = some (.bl (!decide (c ∈ chs s))) := rfl
theorem strsD_map : ∀ ss : List Str, strsD (ss.map .str) = some ss
  | [] => rfl
  | s :: ss => by simp only [List.map_cons, strsD, strsD_map ss, omS]
theorem joinL_nil : ∀ l : List (List Nat), TL.joinL [] l = l.flatten
  | [] => rfl
  | [p] => by simp [TL.joinL]
  | p :: q :: r => by simp only [TL.joinL, List.nil_append, joinL_nil (q :: r), List.flatten_cons]
theorem join_nil (ss : List Str) : Txt.join (chS []) ss = chS (ss.map chs).flatten := by
  rw [TL.join_eq, ← chS_chs (Str.join (chS []) ss)]
  congr 1
  exact (TL.tl_join (chS []) ss).trans ((congrArg (fun z => TL.joinL z (ss.map chs)) (show chs (chS []) = [] by rfl)).trans (joinL_nil _))
theorem sum_le : ∀ (l : List Nat) (b : Nat), (∀ x ∈ l, x ≤ b) → l.sum ≤ l.length * b
  | [], b, _ => by simp
  | x :: l, b, h => by
    have := sum_le l b fun y hy => h y (List.mem_cons_of_mem _ hy)
    have := h x List.mem_cons_self
    rw [List.sum_cons, List.length_cons, Nat.succ_mul]; omega
theorem joinS_ev {ss : List Str} (hl : ss.length ≤ 1000) (h : ∀ s ∈ ss, s.length ≤ 1000) : joinS (chS []) (ss.map .str) = some (.str (chS (ss.map chs).flatten)) := by
  unfold joinS
  rw [strsD_map, obS, if_pos, join_nil]
  have := sum_le (ss.map (·.length)) 1000 (by
    intro x hx
    obtain ⟨s, hs, rfl⟩ := List.mem_map.mp hx
    exact h s hs)
  rw [List.length_map] at this
  have z : (chS []).length = 0 := rfl
  rw [z]
  have : ss.length * 1000 ≤ 1000 * 1000 := Nat.mul_le_mul_right _ hl
  omega
theorem join_tup {ss : List Str} (hl : ss.length ≤ 1000) (h : ∀ s ∈ ss, s.length ≤ 1000) : joinD (chS []) (.tup (ss.map .str)) = some (.str (chS (ss.map chs).flatten)) := joinS_ev hl h
theorem join_lst {ss : List Str} (hl : ss.length ≤ 1000) (h : ∀ s ∈ ss, s.length ≤ 1000) : joinD (chS []) (.lst (ss.map .str)) = some (.str (chS (ss.map chs).flatten)) := joinS_ev hl h
theorem flat_one (cs : List Nat) : ((cs.map fun c => chS [c]).map chs).flatten = cs := by
  induction cs with
  | nil => rfl
  | cons c cs ih => rw [List.map_cons, List.map_cons, List.flatten_cons, ih]; rfl
/-- joined signs -/
theorem join_chars {cs : List Nat} (hl : cs.length ≤ 1000) : joinD (chS []) (.lst (cs.map fun c => .str (chS [c]))) = some (.str (chS cs)) := by
  have := join_lst (ss := cs.map fun c => chS [c]) (by rw [List.length_map]; exact hl) (by
    intro s hs
    obtain ⟨c, _, rfl⟩ := List.mem_map.mp hs
    rw [len_chS]; exact Nat.le_trans (Nat.le_refl 1) (by decide))
  rw [List.map_map] at this
  rw [flat_one] at this
  exact this
theorem lst_nil_ne {l : List D} (h : ∀ d ∈ l, pd 63 d = true) : neD (.lst l) (.lst []) = some (.bl (!l.isEmpty)) := by
  unfold neD pd2
  rw [show pd 64 (.lst l) = true by rw [pd_lst 63, List.all_eq_true]; exact h]
  cases l with
  | nil => rfl
  | cons a l =>
    have : eqv (.lst (a :: l)) (.lst []) = false := by simp [eqv, toP, toPs, PyData.eqv, PyData.eqvAll]
    rw [this]; rfl
theorem lst_nil_eq {l : List D} (h : ∀ d ∈ l, pd 63 d = true) : eqD (.lst l) (.lst []) = some (.bl l.isEmpty) := by
  unfold eqD pd2
  rw [show pd 64 (.lst l) = true by rw [pd_lst 63, List.all_eq_true]; exact h]
  cases l with
  | nil => rfl
  | cons a l =>
    have : eqv (.lst (a :: l)) (.lst []) = false := by simp [eqv, toP, toPs, PyData.eqv, PyData.eqvAll]
    rw [this]; rfl
mutual
theorem eqv_self : ∀ (n : Nat) (d : D), pd n d = true → eqv d d = true
  | n, .non, _ => by simp [eqv, toP, PyData.eqv]
  | n, .bl _, _ => by simp [eqv, toP, PyData.eqv]
  | n, .int _, _ => by simp [eqv, toP, PyData.eqv]
  | n, .str _, _ => by simp [eqv, toP, PyData.eqv]
  | 0, .tup _, h => by simp [pd] at h
  | 0, .lst _, h => by simp [pd] at h
  | n + 1, .tup l, h => by
    rw [pd_tup] at h
    have := eqvL_self n l h
    simpa [eqv, eqvL, toP, PyData.eqv] using this
  | n + 1, .lst l, h => by
    rw [pd_lst] at h
    have := eqvL_self n l h
    simpa [eqv, eqvL, toP, PyData.eqv] using this
  | n, .dic _ _, h => by cases n <;> simp [pd] at h
  | n, .scr _, h => by cases n <;> simp [pd] at h
  | n, .fn _, h => by cases n <;> simp [pd] at h
theorem eqvL_self : ∀ (n : Nat) (l : List D), l.all (pd n) = true → eqvL l l = true
  | _, [], _ => eqvL_nil
  | n, d :: l, h => by
    rw [List.all_cons, Bool.and_eq_true] at h
    rw [eqvL_cons, eqv_self n d h.1, eqvL_self n l h.2]; rfl
end
theorem eq_self {d : D} (h : pd 64 d = true) : eqD d d = some (.bl true) := by
  unfold eqD pd2; rw [h, eqv_self 64 d h]; rfl
theorem ne_self {d : D} (h : pd 64 d = true) : neD d d = some (.bl false) := by
  unfold neD pd2; rw [h, eqv_self 64 d h]; rfl
theorem lc_flatMap {α : Type} {one : D → Option (List D)} {f : α → D} {g : α → List D} : ∀ {l : List α}, (∀ a ∈ l, one (f a) = some (g a)) → lcAll one (l.map f) = some (l.flatMap g)
  | [], _ => rfl
  | d :: l, h => by
    simp only [List.map_cons, lcAll]
    rw [h d List.mem_cons_self, lc_flatMap fun e he => h e (List.mem_cons_of_mem _ he)]
    rfl
theorem s_cLc2 (own vs1 : List Nat) (fi : SL) (asg : SG) (t : SB) (fi1 : SL) (asg1 : SG) (t1 : SB) (e : SE) (F : Fn) (ρ : RE.Env) : cLc2 own vs1 fi asg t fi1 asg1 t1 e F ρ = (fi F ρ).bind fun ds => (lcAll (lcTwo vs1 asg t fi1 asg1 t1 e F (wipeE ρ own)) ds).bind mkLst := (rfl)
theorem s_lcTwo (vs1 : List Nat) (asg : SG) (t : SB) (fi1 : SL) (asg1 : SG) (t1 : SB) (e : SE) (F : Fn) (ρ : RE.Env) (d : D) : lcTwo vs1 asg t fi1 asg1 t1 e F ρ d = (asg d ρ).bind fun ρ' => (t F ρ').bind fun b => if b then (fi1 F ρ').bind fun ds1 => lcAll (lcOne asg1 t1 e F (wipeE ρ' vs1)) ds1 else some [] := (rfl)
/-! rooms -/
def roomD (rs : List Str) : D := .tup (rs.map .str)
structure RoomOk (rs : List Str) (w : Nat) : Prop where
  h1 : 1 ≤ rs.length
  h6 : rs.length ≤ 6
  w1 : 1 ≤ w
  w6 : w ≤ 6
  len : ∀ s ∈ rs, (chs s).length = w
  ch : ∀ s ∈ rs, ∀ c ∈ chs s, c = 46 ∨ c = 35
def at_ (rs : List Str) (x y : Nat) : Nat := (chs (rs.getD y (chS []))).getD x 0
def signL (rs : List Str) (w c : Nat) : List (Nat × Nat) := (List.range w).flatMap fun x => ((List.range rs.length).filter fun y => decide (at_ rs x y = c)).map fun y => (x, y)
def cellD (p : Nat × Nat) : D := .tup [natD p.1, natD p.2]
def cellsD (l : List (Nat × Nat)) : D := .lst (l.map cellD)
theorem RoomOk.row {rs : List Str} {w : Nat} (h : RoomOk rs w) {y : Nat} (hy : y < rs.length) : idxD (roomD rs) (natD y) = some (.str rs[y]) ∧ (chs rs[y]).length = w ∧ rs[y].length ≤ 100000 := by
  refine ⟨?_, h.len _ (List.getElem_mem hy), ?_⟩
  · have := idx_tup (l := rs.map D.str) (i := y) (by rw [List.length_map]; exact hy)
    rw [List.getElem_map] at this
    exact this
  · rw [len_chs, h.len _ (List.getElem_mem hy)]; have := h.w6; omega
theorem RoomOk.at {rs : List Str} {w : Nat} (h : RoomOk rs w) {x y : Nat} (hx : x < w) (hy : y < rs.length) : idxD (.str rs[y]) (natD x) = some (.str (chS [at_ rs x y])) := by
  obtain ⟨_, h2, h3⟩ := h.row hy
  have := idx_str (s := rs[y]) (i := x) (by rw [h2]; exact hx) h3
  refine this.trans ?_
  congr 3
  unfold at_
  simp [List.getD, hy, h2, hx]
theorem chS_one {a b : Nat} : chS [a] = chS [b] ↔ a = b := by
  constructor
  · intro h
    have := congrArg chs h
    rw [chs_chS, chs_chS] at this
    exact (List.cons.inj this).1
  · rintro rfl; rfl
theorem pd_cell (n : Nat) (p : Nat × Nat) : pd (n + 1) (cellD p) = true := by
  unfold cellD natD
  rw [pd_tup]
  simp [pd_int]
theorem pd_cells (n : Nat) (l : List (Nat × Nat)) : pd (n + 2) (cellsD l) = true := by
  unfold cellsD
  rw [pd_lst, List.all_eq_true]
  intro x hx
  obtain ⟨p, _, rfl⟩ := List.mem_map.mp hx
  exact pd_cell n p
theorem flatMap_len {α β : Type} (f : α → List β) (b : Nat) : ∀ l : List α, (∀ a ∈ l, (f a).length ≤ b) → (l.flatMap f).length ≤ l.length * b
  | [], _ => by simp
  | a :: l, h => by
    have := flatMap_len f b l fun x hx => h x (List.mem_cons_of_mem _ hx)
    have := h a List.mem_cons_self
    rw [List.flatMap_cons, List.length_append, List.length_cons, Nat.succ_mul]; omega
theorem RoomOk.cells_len {rs : List Str} {w : Nat} (h : RoomOk rs w) (c : Nat) : (signL rs w c).length ≤ 36 := by
  unfold signL
  refine Nat.le_trans (flatMap_len _ 6 _ fun x hx => ?_) ?_
  · rw [List.length_map]
    refine Nat.le_trans (List.length_filter_le _ _) ?_
    rw [List.length_range]; exact h.h6
  · rw [List.length_range]
    have := h.w6
    omega
end RE
namespace L
noncomputable def lrLc : SE := cLc [6] (cRng1 (cV 1)) (gN 6) (cTrue) (cIx (cC (.str ".#")) (cCall (op1 int1D) (cCons (cB eqD (cB modD (cIx (cV 0) (cB addD (cC (.int 2)) (cB modD (cB addD (cB mulD (cC (.int 6)) (cV 4)) (cV 6)) (cC (.int 37))))) (cIx (cLst (cCons (cC (.int 9)) (cCons (cC (.int 3)) (cCons (cC (.int 5)) (cNil))))) (cB modD (cIx (cV 0) (cC (.int 39))) (cC (.int 3))))) (cC (.int 0))) (cNil))))
noncomputable def lrB : SS := sSeq (sAsg lrLc (gN 5)) (sSeq (sApp 3 (cIf (cBT gtD (cV 4) (cC (.int 0))) (cU (joinD "") (cV 5)) (cB addD (cC (.str ".")) (cU (joinD "") (cSl (cV 5) (cPart (cC (.int 1))) (cNone)))))) (sNil))
theorem room_eq : b__law_room = sSeq (sPar [1, 2] (cCons (cB addD (cC (.int 1)) (cB modD (cIx (cV 0) (cC (.int 0))) (cC (.int 6)))) (cCons (cB addD (cC (.int 1)) (cB modD (cIx (cV 0) (cC (.int 1))) (cC (.int 6)))) (cNil)))) (sSeq (sSetM 3 (cND (cLst (cNil)))) (sSeq (sFor (cRng1 (cV 2)) (gN 4) lrB) (sSeq (sRet (cCall (op1 tupleD) (cCons (cV 3) (cNil)))) (sNil)))) := rfl
end L
namespace L
theorem signed_ev (n : Nat) {rs : List Str} {w : Nat} (h : RoomOk rs w) (c : Nat) : lvl (DT rows) (n + 1) "signed" [roomD rs, .str (chS [c])] = some (cellsD (signL rs w c)) := by
  have h1 := h.h1
  have h6 := h.h6
  have w6 := h.w6
  have e0 : idxD (roomD rs) (.int 0) = some (.str (rs[0]'(by omega))) := (h.row (y := 0) (by omega)).1
  have e1 : lenD (.str (rs[0]'(by omega))) = some (natD w) := by
    have := h.row (y := 0) (by omega)
    rw [len_str this.2.2, len_chs, this.2.1]; rfl
  have e2 : lenD (roomD rs) = some (natD rs.length) := by unfold roomD; rw [s_lenT, List.length_map]; rfl
  have r1 : rng1D (natD w) = some ((List.range w).map natD) := rng1_ev (by omega)
  have r2 : rng1D (natD rs.length) = some ((List.range rs.length).map natD) := rng1_ev (by omega)
  have sl := h.cells_len c
  rw [v_signed]
  generalize lvl (DT rows) n = F
  have inner : ∀ x, x < w → lcAll (lcOne (gN 3) (cBT eqD (cIx (cIx (cV 0) (cV 3)) (cV 2)) (cV 1)) (cTup (cCons (cV 2) (cCons (cV 3) (cNil)))) F [some (roomD rs), some (.str (chS [c])), some (natD x), none]) ((List.range rs.length).map natD) = some (((List.range rs.length).filter fun y => decide (at_ rs x y = c)).map fun y => cellD (x, y)) := by
    intro x hx
    refine lc_filter fun y hy => ?_
    have hy := List.mem_range.mp hy
    have a1 := (h.row hy).1
    have a2 := h.at hx hy
    have a3 : eqD (.str (chS [at_ rs x y])) (.str (chS [c])) = some (.bl (decide (at_ rs x y = c))) := by
      rw [eqS]; exact congrArg (fun z => some (D.bl z)) (decide_eq_decide.mpr chS_one)
    simp only [s_sSeq, s_sNil, s_sRet, s_sRetT, s_sIf, s_sAsg, s_sPar, s_sSetM, s_cND, s_cC, s_cB, s_cU, s_cTup, s_cLst, s_cNil, s_cCons, s_cCall, s_cFn, s_cIx, s_cAnd, s_cOr, s_cNot, s_cIf, s_cTr, s_cBT, s_cAndT, s_cOrT, s_cNotT, s_cCh, s_cChT, s_cSl, s_sFor, s_cWalk, s_cLc, s_lcOne, s_cTrue, s_sApp, s_gN, s_gT, s_gsNil, s_gsCons, s_cV0, s_cVs, s_finR, s_finN, s_boolD, s_truB, s_setAll0, s_setAll1, s_op1, s_op2, s_abs, s_addI, s_subI, eqI, neI, ltI, gtI, leI, geI, mkTup1, mkTup2, mkTup3, idx_t0, idx_t1, idx_t2, obS, omS, List.set_cons_zero, List.set_cons_succ, s_cNone, s_cPart, s_intD, s_cRng1, s_walkL, s_walkT, s_lenT, s_lenL, s_lenS, s_slT, s_slL, if_true, if_false, decide_true, decide_false, Bool.not_true, Bool.not_false, Bool.and_true, Bool.and_false, Bool.true_and, Bool.false_and, Bool.false_eq_true, decide_eq_true_eq, s_cEnum, s_sPut, s_revL, s_revT, s_listL, s_listT, s_tupleL, s_tupleT, s_isDicLst, s_isDicTup, s_isDicInt, wipeE_nil, wipeE_cons, a1, a2, a3]
    by_cases q : at_ rs x y = c <;> simp only [q, decide_true, decide_false, if_true, Bool.false_eq_true, if_false] <;> rfl
  have outer : lcAll (lcTwo [3] (gN 2) cTrue (cRng1 (cCall (op1 lenD) (cCons (cV 0) (cNil)))) (gN 3) (cBT eqD (cIx (cIx (cV 0) (cV 3)) (cV 2)) (cV 1)) (cTup (cCons (cV 2) (cCons (cV 3) (cNil)))) F [some (roomD rs), some (.str (chS [c])), none, none]) ((List.range w).map natD) = some ((List.range w).flatMap fun x => ((List.range rs.length).filter fun y => decide (at_ rs x y = c)).map fun y => cellD (x, y)) := by
    refine lc_flatMap fun x hx => ?_
    have hx := List.mem_range.mp hx
    rw [s_lcTwo, s_gN]
    simp only [obS, List.set_cons_succ, List.set_cons_zero, s_cTrue, if_true, s_cRng1, s_cCall, s_cCons, s_cV0, s_cNil, s_op1, e2, r2, wipeE_cons, wipeE_nil]
    exact inner x hx
  have e3 : ((List.range w).flatMap fun x => ((List.range rs.length).filter fun y => decide (at_ rs x y = c)).map fun y => cellD (x, y)) = (signL rs w c).map cellD := by
    unfold signL
    rw [List.map_flatMap]
    refine congrArg (fun g => (List.range w).flatMap g) (funext fun x => ?_)
    rw [List.map_map]; rfl
  have e4 : mkLst ((signL rs w c).map cellD) = some (cellsD (signL rs w c)) := mkLst_ev (by rw [List.length_map]; omega)
  unfold b_signed
  first | rw [s_sSeq, s_sRetT, s_cLc2, s_cRng1] | rw [s_sSeq, s_sRet, s_cLc2, s_cRng1]
  simp only [s_cCall, s_cCons, s_cIx, s_cC, s_cV0, s_cNil, obS, s_op1, e0, e1, r1, wipeE_cons, wipeE_nil, List.set_cons_succ, List.set_cons_zero]
  rw [outer, e3, obS, e4]
  rfl
end L
namespace L
theorem list_ex {α : Type} {P : α → Prop} {f : α → D} : ∀ {ys : List D}, (∀ y ∈ ys, ∃ c, P c ∧ y = f c) → ∃ cs : List α, ys = cs.map f ∧ ∀ c ∈ cs, P c
  | [], _ => ⟨[], rfl, by simp⟩
  | y :: ys, h => by
    obtain ⟨c, h1, rfl⟩ := h y List.mem_cons_self
    obtain ⟨cs, rfl, h2⟩ := list_ex (ys := ys) fun z hz => h z (List.mem_cons_of_mem _ hz)
    refine ⟨c :: cs, rfl, fun z hz => ?_⟩
    rcases List.mem_cons.mp hz with rfl | hz
    · exact h1
    · exact h2 z hz
theorem law_room_ev (n : Nat) (ds : List Nat) (hl : ds.length = 60) : ∃ rs w, RoomOk rs w ∧ at_ rs 0 0 = 46 ∧ lvl (DT rows) (n + 1) "_law_room" [.lst (ds.map natD)] = some (roomD rs) := by
  have i0 : idxD (.lst (ds.map natD)) (.int 0) = some (natD ds[0]) := idx_nat (i := 0) (by omega)
  have i1 : idxD (.lst (ds.map natD)) (.int 1) = some (natD ds[1]) := idx_nat (i := 1) (by omega)
  have i39 : idxD (.lst (ds.map natD)) (.int 39) = some (natD ds[39]) := idx_nat (i := 39) (by omega)
  have m0 : modD (natD ds[0]) (.int 6) = some (natD (ds[0] % 6)) := modN _ 6 (by decide)
  have m1 : modD (natD ds[1]) (.int 6) = some (natD (ds[1] % 6)) := modN _ 6 (by decide)
  have m39 : modD (natD ds[39]) (.int 3) = some (natD (ds[39] % 3)) := modN _ 3 (by decide)
  have l0 := Nat.mod_lt ds[0] (show 0 < 6 by decide)
  have l1 := Nat.mod_lt ds[1] (show 0 < 6 by decide)
  have l39 := Nat.mod_lt ds[39] (show 0 < 3 by decide)
  generalize ds[0] % 6 = a at *
  generalize ds[1] % 6 = b at *
  have ad : ∀ q : Nat, addD (.int 1) (natD q) = some (natD (1 + q)) := fun q => by
    exact congrArg (fun z => some (D.int z)) (show (1 + (q : Int) : Int) = ((1 + q : Nat) : Int) by omega)
  have ad2 : ∀ q : Nat, addD (.int 2) (natD q) = some (natD (2 + q)) := fun q => by
    exact congrArg (fun z => some (D.int z)) (show (2 + (q : Int) : Int) = ((2 + q : Nat) : Int) by omega)
  have adn : ∀ p q : Nat, addD (natD p) (natD q) = some (natD (p + q)) := fun p q => by
    exact congrArg (fun z => some (D.int z)) (show ((p : Int) + (q : Int) : Int) = ((p + q : Nat) : Int) by omega)
  obtain ⟨k, hk, ik⟩ : ∃ k : Nat, k ≠ 0 ∧ idxD (.lst [.int 9, .int 3, .int 5]) (natD (ds[39] % 3)) = some (natD k) := by
    generalize ds[39] % 3 = i at *
    match i, l39 with
    | 0, _ => exact ⟨9, by decide, rfl⟩
    | 1, _ => exact ⟨3, by decide, rfl⟩
    | 2, _ => exact ⟨5, by decide, rfl⟩
  rw [v__law_room, room_eq]
  generalize lvl (DT rows) n = F
  have mk3 : ∀ a b c : D, mkLst [a, b, c] = some (.lst [a, b, c]) := fun _ _ _ => rfl
  have mk0 : mkLst [] = some (.lst []) := rfl
  have lcv : ∀ (y : Nat) (s2 s3 s5 s6 : Option D), y < 6 → ∃ cs : List Nat, cs.length = 1 + a ∧ (∀ c ∈ cs, c = 46 ∨ c = 35) ∧ lrLc F [some (.lst (ds.map natD)), some (natD (1 + a)), s2, s3, some (natD y), s5, s6] = some (.lst (cs.map fun c => .str (chS [c]))) := by
    intro y s2 s3 s5 s6 hy
    obtain ⟨ys, y1, y2, y3⟩ := lc_ex (α := Nat) (f := natD) (P := fun _ z => ∃ c, (c = 46 ∨ c = 35) ∧ z = .str (chS [c])) (l := List.range (1 + a)) (one := lcOne (gN 6) (cTrue) (cIx (cC (.str ".#")) (cCall (op1 int1D) (cCons (cB eqD (cB modD (cIx (cV 0) (cB addD (cC (.int 2)) (cB modD (cB addD (cB mulD (cC (.int 6)) (cV 4)) (cV 6)) (cC (.int 37))))) (cIx (cLst (cCons (cC (.int 9)) (cCons (cC (.int 3)) (cCons (cC (.int 5)) (cNil))))) (cB modD (cIx (cV 0) (cC (.int 39))) (cC (.int 3))))) (cC (.int 0))) (cNil)))) F [some (.lst (ds.map natD)), some (natD (1 + a)), s2, s3, some (natD y), s5, none]) (by
      intro x hx
      have hx := List.mem_range.mp hx
      have e1 : mulD (.int 6) (natD y) = some (natD (6 * y)) := by
        refine (mul_ev (j := (y : Int)) (by decide) (wim_of (k := 10) (by omega) (by decide))).trans ?_
        exact congrArg (fun z => some (D.int z)) (show (6 * (y : Int) : Int) = ((6 * y : Nat) : Int) by omega)
      have e2 : modD (natD (6 * y + x)) (.int 37) = some (natD ((6 * y + x) % 37)) := modN _ 37 (by decide)
      have lq := Nat.mod_lt (6 * y + x) (show 0 < 37 by decide)
      have e3 : idxD (.lst (ds.map natD)) (natD (2 + (6 * y + x) % 37)) = some (natD (ds[2 + (6 * y + x) % 37]'(by omega))) := idx_nat (by omega)
      generalize ds[2 + (6 * y + x) % 37]'(by omega) = v at *
      have e4 : modD (natD v) (natD k) = some (natD (v % k)) := modN v k hk
      have e5 : eqD (natD (v % k)) (.int 0) = some (.bl (decide (((v % k : Nat) : Int) = 0))) := eqI _ _
      generalize decide (((v % k : Nat) : Int) = 0) = t at *
      have e6 : int1D (.bl t) = some (.int (if t then 1 else 0)) := rfl
      cases t with
      | false =>
        have e7 : idxD (.str ".#") (.int 0) = some (.str (chS [46])) := by rw [lit_both]; rfl
        exact ⟨_, by simp only [s_sSeq, s_sNil, s_sRet, s_sRetT, s_sIf, s_sAsg, s_sPar, s_sSetM, s_cND, s_cC, s_cB, s_cU, s_cTup, s_cLst, s_cNil, s_cCons, s_cCall, s_cFn, s_cIx, s_cAnd, s_cOr, s_cNot, s_cIf, s_cTr, s_cBT, s_cAndT, s_cOrT, s_cNotT, s_cCh, s_cChT, s_cSl, s_sFor, s_cWalk, s_cLc, s_lcOne, s_cTrue, s_sApp, s_gN, s_gT, s_gsNil, s_gsCons, s_cV0, s_cVs, s_finR, s_finN, s_boolD, s_truB, s_setAll0, s_setAll1, s_op1, s_op2, s_abs, s_addI, s_subI, eqI, neI, ltI, gtI, leI, geI, mkTup1, mkTup2, mkTup3, idx_t0, idx_t1, idx_t2, obS, omS, List.set_cons_zero, List.set_cons_succ, s_cNone, s_cPart, s_intD, s_cRng1, s_walkL, s_walkT, s_lenT, s_lenL, s_lenS, s_slT, s_slL, if_true, if_false, decide_true, decide_false, Bool.not_true, Bool.not_false, Bool.and_true, Bool.and_false, Bool.true_and, Bool.false_and, Bool.false_eq_true, decide_eq_true_eq, s_cEnum, s_sPut, s_revL, s_revT, s_listL, s_listT, s_tupleL, s_tupleT, s_isDicLst, s_isDicTup, s_isDicInt, wipeE_nil, wipeE_cons, e1, adn, e2, ad2, e3, mk3, i39, m39, ik, e4, e5, e6, e7], 46, .inl rfl, rfl⟩
      | true =>
        have e7 : idxD (.str ".#") (.int 1) = some (.str (chS [35])) := by rw [lit_both]; rfl
        exact ⟨_, by simp only [s_sSeq, s_sNil, s_sRet, s_sRetT, s_sIf, s_sAsg, s_sPar, s_sSetM, s_cND, s_cC, s_cB, s_cU, s_cTup, s_cLst, s_cNil, s_cCons, s_cCall, s_cFn, s_cIx, s_cAnd, s_cOr, s_cNot, s_cIf, s_cTr, s_cBT, s_cAndT, s_cOrT, s_cNotT, s_cCh, s_cChT, s_cSl, s_sFor, s_cWalk, s_cLc, s_lcOne, s_cTrue, s_sApp, s_gN, s_gT, s_gsNil, s_gsCons, s_cV0, s_cVs, s_finR, s_finN, s_boolD, s_truB, s_setAll0, s_setAll1, s_op1, s_op2, s_abs, s_addI, s_subI, eqI, neI, ltI, gtI, leI, geI, mkTup1, mkTup2, mkTup3, idx_t0, idx_t1, idx_t2, obS, omS, List.set_cons_zero, List.set_cons_succ, s_cNone, s_cPart, s_intD, s_cRng1, s_walkL, s_walkT, s_lenT, s_lenL, s_lenS, s_slT, s_slL, if_true, if_false, decide_true, decide_false, Bool.not_true, Bool.not_false, Bool.and_true, Bool.and_false, Bool.true_and, Bool.false_and, Bool.false_eq_true, decide_eq_true_eq, s_cEnum, s_sPut, s_revL, s_revT, s_listL, s_listT, s_tupleL, s_tupleT, s_isDicLst, s_isDicTup, s_isDicInt, wipeE_nil, wipeE_cons, e1, adn, e2, ad2, e3, mk3, i39, m39, ik, e4, e5, e6, e7], 35, .inr rfl, rfl⟩)
    obtain ⟨cs, rfl, h2⟩ := list_ex (P := fun c : Nat => c = 46 ∨ c = 35) (f := fun c => D.str (chS [c])) (ys := ys) fun z hz => (y3 z hz).elim fun _ h => h.2
    rw [List.length_map, List.length_range] at y1
    refine ⟨cs, y1, h2, ?_⟩
    have hr : rng1D (natD (1 + a)) = some ((List.range (1 + a)).map natD) := rng1_ev (by omega)
    unfold lrLc
    rw [s_cLc, s_cRng1]
    simp only [s_cV0, s_cVs, obS, hr, wipeE_cons, wipeE_nil, List.set_cons_succ, List.set_cons_zero]
    rw [y2, obS, mkLst_ev (by rw [List.length_map]; omega)]
  obtain ⟨ρ', g1, rs, x4, x5, x6, g2, g3, g4, g5⟩ := for_inv (asg := gN 4) (body := lrB F) (fun i ρ => ∃ rs x4 x5 x6, ρ = [some (.lst (ds.map natD)), some (natD (1 + a)), some (natD (1 + b)), some (.lst (rs.map .str)), x4, x5, x6] ∧ rs.length = i ∧ (∀ s ∈ rs, (chs s).length = 1 + a ∧ ∀ c ∈ chs s, c = 46 ∨ c = 35) ∧ (0 < i → at_ rs 0 0 = 46)) ((List.range (1 + b)).map natD) 0
      [some (.lst (ds.map natD)), some (natD (1 + a)), some (natD (1 + b)), some (.lst []), none, none, none] ⟨[], none, none, none, rfl, rfl, by simp, by simp⟩ (by
    rintro i hi ρ ⟨rs, x4, x5, x6, rfl, h1, h2, h3⟩
    have hi : i < 1 + b := by simpa using hi
    rw [Nat.zero_add] at h1
    rw [show ((List.range (1 + b)).map natD)[i]'(by simpa using hi) = natD i by simp, s_gN, obS]
    obtain ⟨cs, c1, c2, c3⟩ := lcv i (some (natD (1 + b))) (some (.lst (rs.map .str))) x5 x6 (by omega)
    have gt : gtD (natD i) (.int 0) = some (.bl (decide ((0 : Int) < (i : Int)))) := gtI _ _
    have j1 : joinD (Str.ofString "") (.lst (cs.map fun c => .str (chS [c]))) = some (.str (chS cs)) := by rw [lit_nil]; exact join_chars (by omega)
    have cu : cutL (cs.map fun c => D.str (chS [c])) (some 1) none = cs.tail.map fun c => .str (chS [c]) := by
      have := cut_from (cs.map fun c => D.str (chS [c])) 1
      rw [show ((1 : Nat) : Int) = 1 from rfl] at this
      rw [this]
      cases cs <;> rfl
    have j2 : joinD (Str.ofString "") (.lst (cs.tail.map fun c => .str (chS [c]))) = some (.str (chS cs.tail)) := by rw [lit_nil]; exact join_chars (by rw [List.length_tail]; omega)
    have ad' : addD (.str ".") (.str (chS cs.tail)) = some (.str (chS (46 :: cs.tail))) := by
      rw [lit_dot, cat_str (by rw [len_chS, len_chS, List.length_tail]; simp only [List.length_cons, List.length_nil]; omega), chs_chS, chs_chS]; rfl
    have ft : fits ((rs.map D.str).length + 1) = true := fits_of (by rw [List.length_map]; omega)
    by_cases c0 : (0 : Int) < (i : Int)
    · refine ⟨[some (.lst (ds.map natD)), some (natD (1 + a)), some (natD (1 + b)), some (.lst ((rs ++ [chS cs]).map .str)), some (natD i), some (.lst (cs.map fun c => .str (chS [c]))), x6], ?_, rs ++ [chS cs], some (natD i), some (.lst (cs.map fun c => .str (chS [c]))), x6, rfl, ?_, ?_, ?_⟩
      · unfold lrB
        simp only [s_sSeq, s_sNil, s_sRet, s_sRetT, s_sIf, s_sAsg, s_sPar, s_sSetM, s_cND, s_cC, s_cB, s_cU, s_cTup, s_cLst, s_cNil, s_cCons, s_cCall, s_cFn, s_cIx, s_cAnd, s_cOr, s_cNot, s_cIf, s_cTr, s_cBT, s_cAndT, s_cOrT, s_cNotT, s_cCh, s_cChT, s_cSl, s_sFor, s_cWalk, s_cLc, s_lcOne, s_cTrue, s_sApp, s_gN, s_gT, s_gsNil, s_gsCons, s_cV0, s_cVs, s_finR, s_finN, s_boolD, s_truB, s_setAll0, s_setAll1, s_op1, s_op2, s_abs, s_addI, s_subI, eqI, neI, ltI, gtI, leI, geI, mkTup1, mkTup2, mkTup3, idx_t0, idx_t1, idx_t2, obS, omS, List.set_cons_zero, List.set_cons_succ, s_cNone, s_cPart, s_intD, s_cRng1, s_walkL, s_walkT, s_lenT, s_lenL, s_lenS, s_slT, s_slL, if_true, if_false, decide_true, decide_false, Bool.not_true, Bool.not_false, Bool.and_true, Bool.and_false, Bool.true_and, Bool.false_and, Bool.false_eq_true, decide_eq_true_eq, s_cEnum, s_sPut, s_revL, s_revT, s_listL, s_listT, s_tupleL, s_tupleT, s_isDicLst, s_isDicTup, s_isDicInt, wipeE_nil, wipeE_cons, c3, gt, c0, j1, ft, List.map_append, List.map_cons, List.map_nil]
      · rw [List.length_append, h1, List.length_singleton]; omega
      · intro s hs
        rcases List.mem_append.mp hs with hs | hs
        · exact h2 s hs
        · rw [List.mem_singleton.mp hs, chs_chS]; exact ⟨c1, c2⟩
      · intro _
        have := h3 (by omega)
        cases rs with
        | nil => simp at h1; omega
        | cons s r => exact this
    · have i0' : i = 0 := by omega
      subst i0'
      have : rs = [] := List.eq_nil_of_length_eq_zero h1
      subst this
      refine ⟨[some (.lst (ds.map natD)), some (natD (1 + a)), some (natD (1 + b)), some (.lst ([chS (46 :: cs.tail)].map .str)), some (natD 0), some (.lst (cs.map fun c => .str (chS [c]))), x6], ?_, [chS (46 :: cs.tail)], some (natD 0), some (.lst (cs.map fun c => .str (chS [c]))), x6, rfl, rfl, ?_, ?_⟩
      · simp only [List.map_nil] at c3
        unfold lrB
        simp only [s_sSeq, s_sNil, s_sRet, s_sRetT, s_sIf, s_sAsg, s_sPar, s_sSetM, s_cND, s_cC, s_cB, s_cU, s_cTup, s_cLst, s_cNil, s_cCons, s_cCall, s_cFn, s_cIx, s_cAnd, s_cOr, s_cNot, s_cIf, s_cTr, s_cBT, s_cAndT, s_cOrT, s_cNotT, s_cCh, s_cChT, s_cSl, s_sFor, s_cWalk, s_cLc, s_lcOne, s_cTrue, s_sApp, s_gN, s_gT, s_gsNil, s_gsCons, s_cV0, s_cVs, s_finR, s_finN, s_boolD, s_truB, s_setAll0, s_setAll1, s_op1, s_op2, s_abs, s_addI, s_subI, eqI, neI, ltI, gtI, leI, geI, mkTup1, mkTup2, mkTup3, idx_t0, idx_t1, idx_t2, obS, omS, List.set_cons_zero, List.set_cons_succ, s_cNone, s_cPart, s_intD, s_cRng1, s_walkL, s_walkT, s_lenT, s_lenL, s_lenS, s_slT, s_slL, if_true, if_false, decide_true, decide_false, Bool.not_true, Bool.not_false, Bool.and_true, Bool.and_false, Bool.true_and, Bool.false_and, Bool.false_eq_true, decide_eq_true_eq, s_cEnum, s_sPut, s_revL, s_revT, s_listL, s_listT, s_tupleL, s_tupleT, s_isDicLst, s_isDicTup, s_isDicInt, wipeE_nil, wipeE_cons, c3, gt, c0, s_cPart, cu, j2, ad', show fits (([] : List D).length + 1) = true from rfl, List.map_cons, List.map_nil, List.nil_append]
      · intro s hs
        rw [List.mem_singleton.mp hs, chs_chS]
        refine ⟨by rw [List.length_cons, List.length_tail]; omega, fun c hc => ?_⟩
        rcases List.mem_cons.mp hc with rfl | hc
        · exact .inl rfl
        · exact c2 c (List.mem_of_mem_tail hc)
      · intro _; rfl)
  have hz : 0 + ((List.range (1 + b)).map natD).length = 1 + b := by simp
  rw [hz] at g3 g5
  refine ⟨rs, 1 + a, ⟨by omega, by omega, by omega, by omega, fun s hs => (g4 s hs).1, fun s hs => (g4 s hs).2⟩, g5 (by omega), ?_⟩
  have hr : rng1D (natD (1 + b)) = some ((List.range (1 + b)).map natD) := rng1_ev (by omega)
  subst g2
  rw [s_sSeq, s_sPar]
  simp only [s_cCons, s_cB, s_cC, s_cIx, s_cV0, s_cNil, obS, i0, m0, ad, i1, m1, omS, s_setAll1, s_setAll0, List.set_cons_succ, List.set_cons_zero]
  rw [s_sSeq, s_sSetM, s_cND, s_cLst, s_cNil, obS, mk0]
  simp only [obS, s_isDicLst, Bool.false_eq_true, if_false, omS, List.set_cons_succ, List.set_cons_zero]
  rw [s_sSeq, s_sFor, s_cRng1]
  simp only [s_cV0, s_cVs, obS, hr]
  rw [g1]
  rfl
end L
namespace RE
/-! a wall on the way: by corners' sides, by how far along the way -/
def sideI (a b c : Int × Int) : Int := (b.1 - a.1) * (c.2 - a.2) - (b.2 - a.2) * (c.1 - a.1)
def farB (b e l : Int) : Bool := decide ((if e > b then e else b) < l) || decide ((if e < b then e else b) > l + 2)
def sidesL (a b l : Int × Int) : List Int := [sideI a b (l.1 + 0, l.2 + 0), sideI a b (l.1 + 0, l.2 + 2), sideI a b (l.1 + 2, l.2 + 0), sideI a b (l.1 + 2, l.2 + 2)]
def barI (a b l : Int × Int) : Bool := !farB a.1 b.1 l.1 && (!farB a.2 b.2 l.2 && (decide (minL (sidesL a b l) ≤ 0) && decide (0 ≤ maxL (sidesL a b l))))
def maxP (f low : Int × Int) : Int × Int := if f.1 * low.2 > low.1 * f.2 then f else low
def minP (g high : Int × Int) : Int × Int := if g.1 * high.2 < high.1 * g.2 then g else high
def clip (b e l : Int) (p : (Int × Int) × (Int × Int)) : Option ((Int × Int) × (Int × Int)) :=
  if e - b = 0 then (if l - b > 0 ∨ l + 2 - b < 0 then none else some p)
  else if e - b < 0 then some (maxP (0 - (l + 2 - b), 0 - (e - b)) p.1, minP (0 - (l - b), 0 - (e - b)) p.2)
  else some (maxP (l - b, e - b) p.1, minP (l + 2 - b, e - b) p.2)
def leP (p q : Int × Int) : Prop := p.1 * q.2 ≤ q.1 * p.2
instance (p q : Int × Int) : Decidable (leP p q) := by unfold leP; exact inferInstance
def touI (a b l : Int × Int) : Bool := match clip a.1 b.1 l.1 ((0, 1), (1, 1)) with
  | none => false
  | some p => match clip a.2 b.2 l.2 p with
    | none => false
    | some q => decide (leP q.1 q.2)
theorem leP_trans {p q r : Int × Int} (hp : 0 < p.2) (hq : 0 < q.2) (hr : 0 < r.2) (h1 : leP p q) (h2 : leP q r) : leP p r := by
  unfold leP at *
  have a : p.1 * q.2 * r.2 ≤ q.1 * p.2 * r.2 := Int.mul_le_mul_of_nonneg_right h1 (by omega)
  have b : q.1 * r.2 * p.2 ≤ r.1 * q.2 * p.2 := Int.mul_le_mul_of_nonneg_right h2 (by omega)
  have c : (p.1 * r.2) * q.2 ≤ (r.1 * p.2) * q.2 := by
    have e1 : p.1 * q.2 * r.2 = (p.1 * r.2) * q.2 := by grind
    have e2 : q.1 * p.2 * r.2 = q.1 * r.2 * p.2 := by grind
    have e3 : r.1 * q.2 * p.2 = (r.1 * p.2) * q.2 := by grind
    omega
  exact Int.le_of_mul_le_mul_right c hq
theorem leP_max {f low q : Int × Int} (hf : 0 < f.2) (hl : 0 < low.2) (hq : 0 < q.2) : leP (maxP f low) q ↔ leP f q ∧ leP low q := by
  unfold maxP
  by_cases c : f.1 * low.2 > low.1 * f.2
  · rw [if_pos c]
    exact ⟨fun h => ⟨h, leP_trans hl hf hq (by unfold leP; omega) h⟩, fun h => h.1⟩
  · rw [if_neg c]
    exact ⟨fun h => ⟨leP_trans hf hl hq (by unfold leP; omega) h, h⟩, fun h => h.2⟩
theorem leP_min {g high p : Int × Int} (hg : 0 < g.2) (hh : 0 < high.2) (hp : 0 < p.2) : leP p (minP g high) ↔ leP p g ∧ leP p high := by
  unfold minP
  by_cases c : g.1 * high.2 < high.1 * g.2
  · rw [if_pos c]
    exact ⟨fun h => ⟨h, leP_trans hp hg hh h (by unfold leP; omega)⟩, fun h => h.1⟩
  · rw [if_neg c]
    exact ⟨fun h => ⟨leP_trans hp hh hg h (by unfold leP; omega), h⟩, fun h => h.2⟩
theorem maxP_pos {f low : Int × Int} (hf : 0 < f.2) (hl : 0 < low.2) : 0 < (maxP f low).2 := by
  unfold maxP; split <;> assumption
theorem minP_pos {f low : Int × Int} (hf : 0 < f.2) (hl : 0 < low.2) : 0 < (minP f low).2 := by
  unfold minP; split <;> assumption
/-- least and greatest of four against nought -/
theorem min4 (a b c d : Int) : minL [a, b, c, d] ≤ 0 ↔ a ≤ 0 ∨ b ≤ 0 ∨ c ≤ 0 ∨ d ≤ 0 := by
  simp only [minL, List.foldl_cons, List.foldl_nil]
  omega
theorem max4 (a b c d : Int) : 0 ≤ maxL [a, b, c, d] ↔ 0 ≤ a ∨ 0 ≤ b ∨ 0 ≤ c ∨ 0 ≤ d := by
  simp only [maxL, List.foldl_cons, List.foldl_nil]
  omega
theorem far_iff (b e l : Int) : farB b e l = false ↔ (l ≤ b ∨ l ≤ e) ∧ (b ≤ l + 2 ∨ e ≤ l + 2) := by
  unfold farB
  rw [Bool.or_eq_false_iff, decide_eq_false_iff_not, decide_eq_false_iff_not]
  constructor
  · rintro ⟨h1, h2⟩
    split at h1 <;> split at h2 <;> omega
  · rintro ⟨h1, h2⟩
    constructor <;> split <;> omega
end RE
end
section
open PySem PySem.Spec PyProof.Rows L2 RE
namespace RE
/-- two reals of products -/
theorem exp2 (x y z : Int) : (x + 2 - y) * z = (x - y) * z + 2 * z := by grind
theorem neg1 (x z : Int) : (0 - x) * (0 - z) = x * z := by grind
theorem neg2 (x z : Int) : (0 - x) * z = 0 - x * z := by grind
theorem neg3 (x z : Int) : x * (0 - z) = 0 - x * z := by grind
theorem bar_iff (a b l : Int × Int) : barI a b l = true ↔ ((l.1 ≤ a.1 ∨ l.1 ≤ b.1) ∧ (a.1 ≤ l.1 + 2 ∨ b.1 ≤ l.1 + 2)) ∧ ((l.2 ≤ a.2 ∨ l.2 ≤ b.2) ∧ (a.2 ≤ l.2 + 2 ∨ b.2 ≤ l.2 + 2)) ∧
    (∃ c, c = (b.1 - a.1) * (l.2 - a.2) - (b.2 - a.2) * (l.1 - a.1) ∧ (c ≤ 0 ∨ c + 2 * (b.1 - a.1) ≤ 0 ∨ c - 2 * (b.2 - a.2) ≤ 0 ∨ c + 2 * (b.1 - a.1) - 2 * (b.2 - a.2) ≤ 0) ∧ (0 ≤ c ∨ 0 ≤ c + 2 * (b.1 - a.1) ∨ 0 ≤ c - 2 * (b.2 - a.2) ∨ 0 ≤ c + 2 * (b.1 - a.1) - 2 * (b.2 - a.2))) := by
  unfold barI sidesL
  rw [Bool.and_eq_true, Bool.and_eq_true, Bool.and_eq_true, Bool.not_eq_true', Bool.not_eq_true', far_iff, far_iff, decide_eq_true_eq, decide_eq_true_eq, min4, max4]
  unfold sideI
  have e1 : (b.1 - a.1) * (l.2 + 2 - a.2) = (b.1 - a.1) * (l.2 - a.2) + 2 * (b.1 - a.1) := by grind
  have e2 : (b.2 - a.2) * (l.1 + 2 - a.1) = (b.2 - a.2) * (l.1 - a.1) + 2 * (b.2 - a.2) := by grind
  simp only [Int.add_zero, e1, e2]
  generalize (b.1 - a.1) * (l.2 - a.2) = v
  generalize (b.2 - a.2) * (l.1 - a.1) = u
  constructor
  · rintro ⟨h1, h2, h3, h4⟩
    exact ⟨h1, h2, _, rfl, by omega, by omega⟩
  · rintro ⟨h1, h2, c, rfl, h3, h4⟩
    exact ⟨h1, h2, by omega, by omega⟩
theorem tou_two {fx gx fy gy : Int × Int} (h1 : 0 < fx.2) (h2 : 0 < gx.2) (h3 : 0 < fy.2) (h4 : 0 < gy.2) : leP (maxP fy (maxP fx (0, 1))) (minP gy (minP gx (1, 1))) ↔ (leP fy gy ∧ leP fy gx ∧ leP fy (1, 1)) ∧ (leP fx gy ∧ leP fx gx ∧ leP fx (1, 1)) ∧ leP (0, 1) gy ∧ leP (0, 1) gx ∧ leP (0, 1) (1, 1) := by
  have z : (0 : Int) < ((0, 1) : Int × Int).2 := by decide
  have o : (0 : Int) < ((1, 1) : Int × Int).2 := by decide
  have q1 := maxP_pos h1 z
  have q2 := minP_pos h2 o
  have r1 := minP_pos h4 q2
  rw [leP_max h3 q1 r1, leP_max h1 z r1, leP_min h4 q2 h3, leP_min h2 o h3, leP_min h4 q2 h1, leP_min h2 o h1, leP_min h4 q2 z, leP_min h2 o z]
theorem tou_one {f g : Int × Int} (h1 : 0 < f.2) (h2 : 0 < g.2) : leP (maxP f (0, 1)) (minP g (1, 1)) ↔ (leP f g ∧ leP f (1, 1)) ∧ leP (0, 1) g ∧ leP (0, 1) (1, 1) := by
  have z : (0 : Int) < ((0, 1) : Int × Int).2 := by decide
  have o : (0 : Int) < ((1, 1) : Int × Int).2 := by decide
  rw [leP_max h1 z (minP_pos h2 o), leP_min h2 o h1, leP_min h2 o z]
theorem small_cases {x : Int} (h1 : x ≤ 0) (h2 : 0 ≤ x + 2) : x = 0 ∨ x = -1 ∨ x = -2 := by omega
theorem tou_bar (a b l : Int × Int) (h : a ≠ b) : touI a b l = barI a b l := by
  obtain ⟨ax, ay⟩ := a
  obtain ⟨bx, by'⟩ := b
  obtain ⟨lx, ly⟩ := l
  have h : ¬ (ax = bx ∧ ay = by') := fun z => h (by rw [z.1, z.2])
  rw [Bool.eq_iff_iff, bar_iff]
  simp only
  obtain ⟨sx, hx⟩ : ∃ s, s = bx - ax := ⟨_, rfl⟩
  obtain ⟨sy, hy⟩ : ∃ s, s = by' - ay := ⟨_, rfl⟩
  obtain ⟨dx, gx⟩ : ∃ s, s = lx - ax := ⟨_, rfl⟩
  obtain ⟨dy, gy⟩ : ∃ s, s = ly - ay := ⟨_, rfl⟩
  have ex : lx + 2 - ax = dx + 2 := by omega
  have ey : ly + 2 - ay = dy + 2 := by omega
  rw [← hx, ← hy, ← gx, ← gy]
  unfold touI clip
  simp only
  rw [← hx, ← hy, ← gx, ← gy, ex, ey]
  have p1 : ∀ x z : Int, (x + 2) * z = x * z + 2 * z := fun x z => by grind
  have p2 : ∀ x z : Int, (0 - x) * (0 - z) = x * z := neg1
  have p3 : ∀ x z : Int, (0 - x) * z = 0 - x * z := neg2
  have p4 : ∀ x z : Int, x * (0 - z) = 0 - x * z := neg3
  have p5 : ∀ x z : Int, (0 - (x + 2)) * z = 0 - x * z - 2 * z := fun x z => by grind
  have p6 : ∀ x z : Int, (0 - (x + 2)) * (0 - z) = x * z + 2 * z := fun x z => by grind
  have cc : sy * dx = dx * sy := Int.mul_comm _ _
  have cd : sx * dy = dy * sx := Int.mul_comm _ _
  rcases Int.lt_trichotomy sx 0 with s1 | s1 | s1 <;> rcases Int.lt_trichotomy sy 0 with s2 | s2 | s2
  case inr.inl.inr.inl => exact absurd ⟨by omega, by omega⟩ h
  case inr.inl.inl =>
    rw [if_pos s1]
    by_cases c : dx > 0 ∨ dx + 2 < 0
    · rw [if_pos c]
      simp only [Bool.false_eq_true, false_iff]
      rintro ⟨q1, _⟩
      omega
    · rw [if_neg c]
      simp only
      rw [if_neg (by omega), if_pos s2]
      simp only [decide_eq_true_eq]
      rw [tou_one (by show 0 < 0 - sy; omega) (by show 0 < 0 - sy; omega)]
      unfold leP
      simp only [p1, p2, p3, p4, p5, p6, Int.mul_one, Int.one_mul, Int.zero_mul, s1, cc]
      rcases small_cases (x := dx) (by omega) (by omega) with e | e | e <;> subst e <;> (constructor <;> intro hh <;> (try obtain ⟨h1, h2, c, h3, h4, h5⟩ := hh) <;> (first | omega | (refine ⟨by omega, by omega, _, rfl, by omega, by omega⟩)))
  case inr.inl.inr.inr =>
    rw [if_pos s1]
    by_cases c : dx > 0 ∨ dx + 2 < 0
    · rw [if_pos c]
      simp only [Bool.false_eq_true, false_iff]
      rintro ⟨q1, _⟩
      omega
    · rw [if_neg c]
      simp only
      rw [if_neg (by omega), if_neg (by omega)]
      simp only [decide_eq_true_eq]
      rw [tou_one (by show 0 < sy; omega) (by show 0 < sy; omega)]
      unfold leP
      simp only [p1, p2, p3, p4, p5, p6, Int.mul_one, Int.one_mul, Int.zero_mul, s1, cc]
      rcases small_cases (x := dx) (by omega) (by omega) with e | e | e <;> subst e <;> (constructor <;> intro hh <;> (try obtain ⟨h1, h2, c, h3, h4, h5⟩ := hh) <;> (first | omega | (refine ⟨by omega, by omega, _, rfl, by omega, by omega⟩)))
  case inl.inr.inl =>
    rw [if_neg (by omega), if_pos s1]
    simp only
    rw [if_pos s2]
    by_cases c : dy > 0 ∨ dy + 2 < 0
    · rw [if_pos c]
      simp only [Bool.false_eq_true, false_iff]
      rintro ⟨q1, q2, _⟩
      omega
    · rw [if_neg c]
      simp only [decide_eq_true_eq]
      rw [tou_one (by show 0 < 0 - sx; omega) (by show 0 < 0 - sx; omega)]
      unfold leP
      simp only [p1, p2, p3, p4, p5, p6, Int.mul_one, Int.one_mul, Int.zero_mul, s2, cd]
      rcases small_cases (x := dy) (by omega) (by omega) with e | e | e <;> subst e <;> (constructor <;> intro hh <;> (try obtain ⟨h1, h2, c, h3, h4, h5⟩ := hh) <;> (first | omega | (refine ⟨by omega, by omega, _, rfl, by omega, by omega⟩)))
  case inr.inr.inr.inl =>
    rw [if_neg (by omega), if_neg (by omega)]
    simp only
    rw [if_pos s2]
    by_cases c : dy > 0 ∨ dy + 2 < 0
    · rw [if_pos c]
      simp only [Bool.false_eq_true, false_iff]
      rintro ⟨q1, q2, _⟩
      omega
    · rw [if_neg c]
      simp only [decide_eq_true_eq]
      rw [tou_one (by show 0 < sx; omega) (by show 0 < sx; omega)]
      unfold leP
      simp only [p1, p2, p3, p4, p5, p6, Int.mul_one, Int.one_mul, Int.zero_mul, s2, cd]
      rcases small_cases (x := dy) (by omega) (by omega) with e | e | e <;> subst e <;> (constructor <;> intro hh <;> (try obtain ⟨h1, h2, c, h3, h4, h5⟩ := hh) <;> (first | omega | (refine ⟨by omega, by omega, _, rfl, by omega, by omega⟩)))
  case inl.inl =>
    rw [if_neg (by omega), if_pos s1]
    simp only
    rw [if_neg (by omega), if_pos s2]
    simp only [decide_eq_true_eq]
    rw [tou_two (by show 0 < 0 - sx; omega) (by show 0 < 0 - sx; omega) (by show 0 < 0 - sy; omega) (by show 0 < 0 - sy; omega)]
    unfold leP
    simp only [p1, p2, p3, p4, p5, p6, Int.mul_one, Int.one_mul, Int.zero_mul, cc, cd]
    generalize dx * sx = w1
    generalize dy * sy = w2
    generalize dx * sy = u
    generalize dy * sx = v
    constructor
    · intro hh
      exact ⟨by omega, by omega, _, rfl, by omega, by omega⟩
    · rintro ⟨h1, h2, c, h3, h4, h5⟩
      omega
  case inl.inr.inr =>
    rw [if_neg (by omega), if_pos s1]
    simp only
    rw [if_neg (by omega), if_neg (by omega)]
    simp only [decide_eq_true_eq]
    rw [tou_two (by show 0 < 0 - sx; omega) (by show 0 < 0 - sx; omega) (by show 0 < sy; omega) (by show 0 < sy; omega)]
    unfold leP
    simp only [p1, p2, p3, p4, p5, p6, Int.mul_one, Int.one_mul, Int.zero_mul, cc, cd]
    generalize dx * sx = w1
    generalize dy * sy = w2
    generalize dx * sy = u
    generalize dy * sx = v
    constructor
    · intro hh
      exact ⟨by omega, by omega, _, rfl, by omega, by omega⟩
    · rintro ⟨h1, h2, c, h3, h4, h5⟩
      omega
  case inr.inr.inl =>
    rw [if_neg (by omega), if_neg (by omega)]
    simp only
    rw [if_neg (by omega), if_pos s2]
    simp only [decide_eq_true_eq]
    rw [tou_two (by show 0 < sx; omega) (by show 0 < sx; omega) (by show 0 < 0 - sy; omega) (by show 0 < 0 - sy; omega)]
    unfold leP
    simp only [p1, p2, p3, p4, p5, p6, Int.mul_one, Int.one_mul, Int.zero_mul, cc, cd]
    generalize dx * sx = w1
    generalize dy * sy = w2
    generalize dx * sy = u
    generalize dy * sx = v
    constructor
    · intro hh
      exact ⟨by omega, by omega, _, rfl, by omega, by omega⟩
    · rintro ⟨h1, h2, c, h3, h4, h5⟩
      omega
  case inr.inr.inr.inr =>
    rw [if_neg (by omega), if_neg (by omega)]
    simp only
    rw [if_neg (by omega), if_neg (by omega)]
    simp only [decide_eq_true_eq]
    rw [tou_two (by show 0 < sx; omega) (by show 0 < sx; omega) (by show 0 < sy; omega) (by show 0 < sy; omega)]
    unfold leP
    simp only [p1, p2, p3, p4, p5, p6, Int.mul_one, Int.one_mul, Int.zero_mul, cc, cd]
    generalize dx * sx = w1
    generalize dy * sy = w2
    generalize dx * sy = u
    generalize dy * sx = v
    constructor
    · intro hh
      exact ⟨by omega, by omega, _, rfl, by omega, by omega⟩
    · rintro ⟨h1, h2, c, h3, h4, h5⟩
      omega
end RE
namespace L
noncomputable def barB : SS := sSeq (sIf (cOrT (cBT ltD (cCall (op2 max2D) (cCons (cIx (cV 3) (cV 5)) (cCons (cIx (cV 4) (cV 5)) (cNil)))) (cB mulD (cC (.int 2)) (cIx (cV 2) (cV 5)))) (cBT gtD (cCall (op2 min2D) (cCons (cIx (cV 3) (cV 5)) (cCons (cIx (cV 4) (cV 5)) (cNil)))) (cB addD (cB mulD (cC (.int 2)) (cIx (cV 2) (cV 5))) (cC (.int 2))))) (sSeq (sRet (cC (.bl false))) (sNil)) (sNil)) (sNil)
noncomputable def barR4 : SS := sSeq (sRet (cCh leD leD (cCall (op1 min1D) (cCons (cV 7) (cNil))) (cC (.int 0)) (cCall (op1 max1D) (cCons (cV 7) (cNil))))) (sNil)
noncomputable def barR3 : SS := sSeq (sAsg (cLc [10] (cWalk (cV 6)) (gN 10) (cTrue) (cFn "side_of" (cCons (cV 3) (cCons (cV 4) (cCons (cV 10) (cNil)))))) (gN 7)) barR4
noncomputable def barR2 : SS := sSeq (sAsg (cLc2 [8, 9] [9] (cWalk (cTup (cCons (cC (.int 0)) (cCons (cC (.int 2)) (cNil))))) (gN 8) (cTrue) (cWalk (cTup (cCons (cC (.int 0)) (cCons (cC (.int 2)) (cNil))))) (gN 9) (cTrue) (cTup (cCons (cB addD (cB mulD (cC (.int 2)) (cIx (cV 2) (cC (.int 0)))) (cV 8)) (cCons (cB addD (cB mulD (cC (.int 2)) (cIx (cV 2) (cC (.int 1)))) (cV 9)) (cNil))))) (gN 6)) barR3
noncomputable def barR1 : SS := sSeq (sFor (cWalk (cTup (cCons (cC (.int 0)) (cCons (cC (.int 1)) (cNil))))) (gN 5) barB) barR2
noncomputable def barR0 : SS := sSeq (sAsg (cTup (cCons (cTup (cCons (cB addD (cB mulD (cC (.int 2)) (cIx (cV 0) (cC (.int 0)))) (cC (.int 1))) (cCons (cB addD (cB mulD (cC (.int 2)) (cIx (cV 0) (cC (.int 1)))) (cC (.int 1))) (cNil)))) (cCons (cTup (cCons (cB addD (cB mulD (cC (.int 2)) (cIx (cV 1) (cC (.int 0)))) (cC (.int 1))) (cCons (cB addD (cB mulD (cC (.int 2)) (cIx (cV 1) (cC (.int 1)))) (cC (.int 1))) (cNil)))) (cNil)))) (gT (gsCons (gN 3) (gsCons (gN 4) (gsNil))))) barR1
theorem barred_eq : b_is_barred = barR0 := rfl
end L
namespace RE
def oddP (p : Nat × Nat) : Int × Int := (2 * (p.1 : Int) + 1, 2 * (p.2 : Int) + 1)
def evP (p : Nat × Nat) : Int × Int := (2 * (p.1 : Int), 2 * (p.2 : Int))
def In6 (p : Nat × Nat) : Prop := p.1 < 6 ∧ p.2 < 6
theorem cell_wy (p : Nat × Nat) : cellD p = wy ((p.1 : Int), (p.2 : Int)) := rfl
theorem s_max2 (i j : Int) : max2D (.int i) (.int j) = some (.int (if j > i then j else i)) := (rfl)
theorem s_min2 (i j : Int) : min2D (.int i) (.int j) = some (.int (if j < i then j else i)) := (rfl)
theorem intsD_map : ∀ l : List Int, intsD (l.map .int) = some l
  | [] => rfl
  | a :: l => by simp only [List.map_cons, intsD, intsD_map l, Option.map_some]
theorem min1_ev {l : List Int} (h : l ≠ []) : min1D (.lst (l.map .int)) = some (.int (minL l)) := by
  simp only [min1D, intsD_map, Option.bind_some]
  cases l with
  | nil => exact absurd rfl h
  | cons a l => rfl
theorem max1_ev {l : List Int} (h : l ≠ []) : max1D (.lst (l.map .int)) = some (.int (maxL l)) := by
  simp only [max1D, intsD_map, Option.bind_some]
  cases l with
  | nil => exact absurd rfl h
  | cons a l => rfl
end RE
namespace L
theorem side_ev (n : Nat) (a b c : Int × Int) (h1 : a.1.natAbs < 2 ^ 8) (h2 : a.2.natAbs < 2 ^ 8) (h3 : b.1.natAbs < 2 ^ 8) (h4 : b.2.natAbs < 2 ^ 8) (h5 : c.1.natAbs < 2 ^ 8) (h6 : c.2.natAbs < 2 ^ 8) : lvl (DT rows) (n + 1) "side_of" [wy a, wy b, wy c] = some (.int (sideI a b c)) := by
  rw [v_side_of]
  generalize lvl (DT rows) n = F
  have m1 := mul_ev (i := b.1 - a.1) (j := c.2 - a.2) (wim_of (k := 10) (by omega) (by decide)) (wim_of (k := 10) (by omega) (by decide))
  have m2 := mul_ev (i := b.2 - a.2) (j := c.1 - a.1) (wim_of (k := 10) (by omega) (by decide)) (wim_of (k := 10) (by omega) (by decide))
  unfold b_side_of sideI
  simp only [s_sSeq, s_sNil, s_sRet, s_sRetT, s_sIf, s_sAsg, s_sPar, s_sSetM, s_cND, s_cC, s_cB, s_cU, s_cTup, s_cLst, s_cNil, s_cCons, s_cCall, s_cFn, s_cIx, s_cAnd, s_cOr, s_cNot, s_cIf, s_cTr, s_cBT, s_cAndT, s_cOrT, s_cNotT, s_cCh, s_cChT, s_cSl, s_sFor, s_cWalk, s_cLc, s_lcOne, s_cTrue, s_sApp, s_gN, s_gT, s_gsNil, s_gsCons, s_cV0, s_cVs, s_finR, s_finN, s_boolD, s_truB, s_setAll0, s_setAll1, s_op1, s_op2, s_abs, s_addI, s_subI, eqI, neI, ltI, gtI, leI, geI, mkTup1, mkTup2, mkTup3, idx_t0, idx_t1, idx_t2, obS, omS, List.set_cons_zero, List.set_cons_succ, s_cNone, s_cPart, s_intD, s_cRng1, s_walkL, s_walkT, s_lenT, s_lenL, s_lenS, s_slT, s_slL, if_true, if_false, decide_true, decide_false, Bool.not_true, Bool.not_false, Bool.and_true, Bool.and_false, Bool.true_and, Bool.false_and, Bool.false_eq_true, decide_eq_true_eq, s_cEnum, s_sPut, s_revL, s_revT, s_listL, s_listT, s_tupleL, s_tupleT, s_isDicLst, s_isDicTup, s_isDicInt, wipeE_nil, wipeE_cons, idx_w0, idx_w1, m1, m2]
theorem bar_step (F : Fn) (P Q W K : D) (b e l : Int) (i1 : idxD P K = some (.int b)) (i2 : idxD Q K = some (.int e)) (z : Int) (i3 : idxD W K = some (.int z)) (hz : z.natAbs < 2 ^ 8) (hl : l = 2 * z) (x1 x2 x6 x7 x8 x9 x10 : Option D) :
    barB F [x1, x2, some W, some P, some Q, some K, x6, x7, x8, x9, x10] = if farB b e l then some (.rt false (.bl false)) else some (.nx [x1, x2, some W, some P, some Q, some K, x6, x7, x8, x9, x10]) := by
  have m1 : mulD (.int 2) (.int z) = some (.int l) := by rw [hl]; exact mul_ev (by decide) (wim_of (k := 10) (by omega) (by decide))
  have e1 : ltD (.int (if e > b then e else b)) (.int l) = some (.bl (decide ((if e > b then e else b) < l))) := ltI _ _
  have e2 : gtD (.int (if e < b then e else b)) (.int (l + 2)) = some (.bl (decide (l + 2 < (if e < b then e else b)))) := gtI _ _
  unfold barB farB
  simp only [s_sSeq, s_sNil, s_sRet, s_sRetT, s_sIf, s_sAsg, s_sPar, s_sSetM, s_cND, s_cC, s_cB, s_cU, s_cTup, s_cLst, s_cNil, s_cCons, s_cCall, s_cFn, s_cIx, s_cAnd, s_cOr, s_cNot, s_cIf, s_cTr, s_cBT, s_cAndT, s_cOrT, s_cNotT, s_cCh, s_cChT, s_cSl, s_sFor, s_cWalk, s_cLc, s_lcOne, s_cTrue, s_sApp, s_gN, s_gT, s_gsNil, s_gsCons, s_cV0, s_cVs, s_finR, s_finN, s_boolD, s_truB, s_setAll0, s_setAll1, s_op1, s_op2, s_abs, s_addI, s_subI, eqI, neI, ltI, gtI, leI, geI, mkTup1, mkTup2, mkTup3, idx_t0, idx_t1, idx_t2, obS, omS, List.set_cons_zero, List.set_cons_succ, s_cNone, s_cPart, s_intD, s_cRng1, s_walkL, s_walkT, s_lenT, s_lenL, s_lenS, s_slT, s_slL, if_true, if_false, decide_true, decide_false, Bool.not_true, Bool.not_false, Bool.and_true, Bool.and_false, Bool.true_and, Bool.false_and, Bool.false_eq_true, decide_eq_true_eq, s_cEnum, s_sPut, s_revL, s_revT, s_listL, s_listT, s_tupleL, s_tupleT, s_isDicLst, s_isDicTup, s_isDicInt, wipeE_nil, wipeE_cons, i1, i2, i3, s_max2, s_min2, m1]
  by_cases c1 : (if e > b then e else b) < l
  · simp only [s_sSeq, s_sNil, s_sRet, s_sRetT, s_sIf, s_sAsg, s_sPar, s_sSetM, s_cND, s_cC, s_cB, s_cU, s_cTup, s_cLst, s_cNil, s_cCons, s_cCall, s_cFn, s_cIx, s_cAnd, s_cOr, s_cNot, s_cIf, s_cTr, s_cBT, s_cAndT, s_cOrT, s_cNotT, s_cCh, s_cChT, s_cSl, s_sFor, s_cWalk, s_cLc, s_lcOne, s_cTrue, s_sApp, s_gN, s_gT, s_gsNil, s_gsCons, s_cV0, s_cVs, s_finR, s_finN, s_boolD, s_truB, s_setAll0, s_setAll1, s_op1, s_op2, s_abs, s_addI, s_subI, eqI, neI, ltI, gtI, leI, geI, mkTup1, mkTup2, mkTup3, idx_t0, idx_t1, idx_t2, obS, omS, List.set_cons_zero, List.set_cons_succ, s_cNone, s_cPart, s_intD, s_cRng1, s_walkL, s_walkT, s_lenT, s_lenL, s_lenS, s_slT, s_slL, if_true, if_false, decide_true, decide_false, Bool.not_true, Bool.not_false, Bool.and_true, Bool.and_false, Bool.true_and, Bool.false_and, Bool.false_eq_true, decide_eq_true_eq, s_cEnum, s_sPut, s_revL, s_revT, s_listL, s_listT, s_tupleL, s_tupleT, s_isDicLst, s_isDicTup, s_isDicInt, wipeE_nil, wipeE_cons, c1, Bool.true_or]
  · by_cases c2 : l + 2 < (if e < b then e else b)
    · have c2' : (if e < b then e else b) > l + 2 := c2
      simp only [s_sSeq, s_sNil, s_sRet, s_sRetT, s_sIf, s_sAsg, s_sPar, s_sSetM, s_cND, s_cC, s_cB, s_cU, s_cTup, s_cLst, s_cNil, s_cCons, s_cCall, s_cFn, s_cIx, s_cAnd, s_cOr, s_cNot, s_cIf, s_cTr, s_cBT, s_cAndT, s_cOrT, s_cNotT, s_cCh, s_cChT, s_cSl, s_sFor, s_cWalk, s_cLc, s_lcOne, s_cTrue, s_sApp, s_gN, s_gT, s_gsNil, s_gsCons, s_cV0, s_cVs, s_finR, s_finN, s_boolD, s_truB, s_setAll0, s_setAll1, s_op1, s_op2, s_abs, s_addI, s_subI, eqI, neI, ltI, gtI, leI, geI, mkTup1, mkTup2, mkTup3, idx_t0, idx_t1, idx_t2, obS, omS, List.set_cons_zero, List.set_cons_succ, s_cNone, s_cPart, s_intD, s_cRng1, s_walkL, s_walkT, s_lenT, s_lenL, s_lenS, s_slT, s_slL, if_true, if_false, decide_true, decide_false, Bool.not_true, Bool.not_false, Bool.and_true, Bool.and_false, Bool.true_and, Bool.false_and, Bool.false_eq_true, decide_eq_true_eq, s_cEnum, s_sPut, s_revL, s_revT, s_listL, s_listT, s_tupleL, s_tupleT, s_isDicLst, s_isDicTup, s_isDicInt, wipeE_nil, wipeE_cons, c1, c2, c2', Bool.false_or]
    · have c2' : ¬ (if e < b then e else b) > l + 2 := c2
      simp only [s_sSeq, s_sNil, s_sRet, s_sRetT, s_sIf, s_sAsg, s_sPar, s_sSetM, s_cND, s_cC, s_cB, s_cU, s_cTup, s_cLst, s_cNil, s_cCons, s_cCall, s_cFn, s_cIx, s_cAnd, s_cOr, s_cNot, s_cIf, s_cTr, s_cBT, s_cAndT, s_cOrT, s_cNotT, s_cCh, s_cChT, s_cSl, s_sFor, s_cWalk, s_cLc, s_lcOne, s_cTrue, s_sApp, s_gN, s_gT, s_gsNil, s_gsCons, s_cV0, s_cVs, s_finR, s_finN, s_boolD, s_truB, s_setAll0, s_setAll1, s_op1, s_op2, s_abs, s_addI, s_subI, eqI, neI, ltI, gtI, leI, geI, mkTup1, mkTup2, mkTup3, idx_t0, idx_t1, idx_t2, obS, omS, List.set_cons_zero, List.set_cons_succ, s_cNone, s_cPart, s_intD, s_cRng1, s_walkL, s_walkT, s_lenT, s_lenL, s_lenS, s_slT, s_slL, if_true, if_false, decide_true, decide_false, Bool.not_true, Bool.not_false, Bool.and_true, Bool.and_false, Bool.true_and, Bool.false_and, Bool.false_eq_true, decide_eq_true_eq, s_cEnum, s_sPut, s_revL, s_revT, s_listL, s_listT, s_tupleL, s_tupleT, s_isDicLst, s_isDicTup, s_isDicInt, wipeE_nil, wipeE_cons, c1, c2, c2', Bool.false_or]
theorem is_barred_ev (n : Nat) (p q w : Nat × Nat) (hp : In6 p) (hq : In6 q) (hw : In6 w) : lvl (DT rows) (n + 2) "is_barred" [cellD p, cellD q, cellD w] = some (.bl (barI (oddP p) (oddP q) (evP w))) := by
  obtain ⟨p1, p2⟩ := hp
  obtain ⟨q1, q2⟩ := hq
  obtain ⟨w1, w2⟩ := hw
  have fs : ∀ c : Int × Int, c.1.natAbs < 2 ^ 8 → c.2.natAbs < 2 ^ 8 → lvl (DT rows) (n + 1) "side_of" [wy (oddP p), wy (oddP q), wy c] = some (.int (sideI (oddP p) (oddP q) c)) := fun c h1 h2 => side_ev n _ _ c (by unfold oddP; simp only; omega) (by unfold oddP; simp only; omega) (by unfold oddP; simp only; omega) (by unfold oddP; simp only; omega) h1 h2
  rw [v_is_barred, barred_eq, cell_wy, cell_wy, cell_wy]
  generalize lvl (DT rows) (n + 1) = F at *
  have ml : ∀ x : Nat, x < 6 → mulD (.int 2) (.int (x : Int)) = some (.int (2 * (x : Int))) := fun x h => mul_ev (by decide) (wim_of (k := 10) (by omega) (by decide))
  have s0 : barR0 F [some (wy (p.1, p.2)), some (wy (q.1, q.2)), some (wy (w.1, w.2)), none, none, none, none, none, none, none, none] = barR1 F [some (wy (p.1, p.2)), some (wy (q.1, q.2)), some (wy (w.1, w.2)), some (wy (oddP p)), some (wy (oddP q)), none, none, none, none, none, none] := by
    unfold barR0 oddP
    simp only [s_sSeq, s_sNil, s_sRet, s_sRetT, s_sIf, s_sAsg, s_sPar, s_sSetM, s_cND, s_cC, s_cB, s_cU, s_cTup, s_cLst, s_cNil, s_cCons, s_cCall, s_cFn, s_cIx, s_cAnd, s_cOr, s_cNot, s_cIf, s_cTr, s_cBT, s_cAndT, s_cOrT, s_cNotT, s_cCh, s_cChT, s_cSl, s_sFor, s_cWalk, s_cLc, s_lcOne, s_cTrue, s_sApp, s_gN, s_gT, s_gsNil, s_gsCons, s_cV0, s_cVs, s_finR, s_finN, s_boolD, s_truB, s_setAll0, s_setAll1, s_op1, s_op2, s_abs, s_addI, s_subI, eqI, neI, ltI, gtI, leI, geI, mkTup1, mkTup2, mkTup3, idx_t0, idx_t1, idx_t2, obS, omS, List.set_cons_zero, List.set_cons_succ, s_cNone, s_cPart, s_intD, s_cRng1, s_walkL, s_walkT, s_lenT, s_lenL, s_lenS, s_slT, s_slL, if_true, if_false, decide_true, decide_false, Bool.not_true, Bool.not_false, Bool.and_true, Bool.and_false, Bool.true_and, Bool.false_and, Bool.false_eq_true, decide_eq_true_eq, s_cEnum, s_sPut, s_revL, s_revT, s_listL, s_listT, s_tupleL, s_tupleT, s_isDicLst, s_isDicTup, s_isDicInt, wipeE_nil, wipeE_cons, idx_w0, idx_w1, ml _ p1, ml _ p2, ml _ q1, ml _ q2, wy_eq]
  have t0 := fun x1 x2 x6 x7 x8 x9 x10 => bar_step F (wy (oddP p)) (wy (oddP q)) (wy ((w.1 : Int), (w.2 : Int))) (.int 0) (oddP p).1 (oddP q).1 (evP w).1 (idx_w0 _) (idx_w0 _) w.1 (idx_w0 _) (by omega) rfl x1 x2 x6 x7 x8 x9 x10
  have t1 := fun x1 x2 x6 x7 x8 x9 x10 => bar_step F (wy (oddP p)) (wy (oddP q)) (wy ((w.1 : Int), (w.2 : Int))) (.int 1) (oddP p).2 (oddP q).2 (evP w).2 (idx_w1 _) (idx_w1 _) w.2 (idx_w1 _) (by omega) rfl x1 x2 x6 x7 x8 x9 x10
  rw [s0]
  have wl : cWalk (cTup (cCons (cC (.int 0)) (cCons (cC (.int 1)) cNil))) F [some (wy (p.1, p.2)), some (wy (q.1, q.2)), some (wy (w.1, w.2)), some (wy (oddP p)), some (wy (oddP q)), none, none, none, none, none, none] = some [.int 0, .int 1] := by simp only [s_sSeq, s_sNil, s_sRet, s_sRetT, s_sIf, s_sAsg, s_sPar, s_sSetM, s_cND, s_cC, s_cB, s_cU, s_cTup, s_cLst, s_cNil, s_cCons, s_cCall, s_cFn, s_cIx, s_cAnd, s_cOr, s_cNot, s_cIf, s_cTr, s_cBT, s_cAndT, s_cOrT, s_cNotT, s_cCh, s_cChT, s_cSl, s_sFor, s_cWalk, s_cLc, s_lcOne, s_cTrue, s_sApp, s_gN, s_gT, s_gsNil, s_gsCons, s_cV0, s_cVs, s_finR, s_finN, s_boolD, s_truB, s_setAll0, s_setAll1, s_op1, s_op2, s_abs, s_addI, s_subI, eqI, neI, ltI, gtI, leI, geI, mkTup1, mkTup2, mkTup3, idx_t0, idx_t1, idx_t2, obS, omS, List.set_cons_zero, List.set_cons_succ, s_cNone, s_cPart, s_intD, s_cRng1, s_walkL, s_walkT, s_lenT, s_lenL, s_lenS, s_slT, s_slL, if_true, if_false, decide_true, decide_false, Bool.not_true, Bool.not_false, Bool.and_true, Bool.and_false, Bool.true_and, Bool.false_and, Bool.false_eq_true, decide_eq_true_eq, s_cEnum, s_sPut, s_revL, s_revT, s_listL, s_listT, s_tupleL, s_tupleT, s_isDicLst, s_isDicTup, s_isDicInt, wipeE_nil, wipeE_cons]
  unfold barR1
  rw [s_sSeq, s_sFor, wl, obS, forD, s_gN, obS]
  simp only [List.set_cons_succ, List.set_cons_zero]
  rw [t0]
  unfold barI
  cases f0 : farB (oddP p).1 (oddP q).1 (evP w).1 with
  | true => rfl
  | false =>
    simp only [Bool.false_eq_true, if_false, obS, Bool.not_false, Bool.true_and]
    rw [forD, s_gN, obS]
    simp only [List.set_cons_succ, List.set_cons_zero]
    rw [t1]
    cases f1 : farB (oddP p).2 (oddP q).2 (evP w).2 with
    | true => rfl
    | false =>
      simp only [Bool.false_eq_true, if_false, obS, Bool.not_false, Bool.true_and, forD]
      have mk4 : ∀ a b c d : D, mkLst [a, b, c, d] = some (.lst [a, b, c, d]) := fun _ _ _ _ => rfl
      have lc : ∀ ρ : RE.Env, ρ = [some (wy (p.1, p.2)), some (wy (q.1, q.2)), some (wy (w.1, w.2)), some (wy (oddP p)), some (wy (oddP q)), some (.int 1), none, none, none, none, none] → barR2 F ρ = barR3 F [some (wy (p.1, p.2)), some (wy (q.1, q.2)), some (wy (w.1, w.2)), some (wy (oddP p)), some (wy (oddP q)), some (.int 1), some (.lst [wy ((evP w).1 + 0, (evP w).2 + 0), wy ((evP w).1 + 0, (evP w).2 + 2), wy ((evP w).1 + 2, (evP w).2 + 0), wy ((evP w).1 + 2, (evP w).2 + 2)]), none, none, none, none] := by
        rintro ρ rfl
        have w02 : walkL (wy (0, 2)) = some [.int 0, .int 2] := rfl
        unfold barR2 evP
        simp only [s_sSeq, s_sNil, s_sRet, s_sRetT, s_sIf, s_sAsg, s_sPar, s_sSetM, s_cND, s_cC, s_cB, s_cU, s_cTup, s_cLst, s_cNil, s_cCons, s_cCall, s_cFn, s_cIx, s_cAnd, s_cOr, s_cNot, s_cIf, s_cTr, s_cBT, s_cAndT, s_cOrT, s_cNotT, s_cCh, s_cChT, s_cSl, s_sFor, s_cWalk, s_cLc, s_lcOne, s_cTrue, s_sApp, s_gN, s_gT, s_gsNil, s_gsCons, s_cV0, s_cVs, s_finR, s_finN, s_boolD, s_truB, s_setAll0, s_setAll1, s_op1, s_op2, s_abs, s_addI, s_subI, eqI, neI, ltI, gtI, leI, geI, mkTup1, mkTup2, mkTup3, idx_t0, idx_t1, idx_t2, obS, omS, List.set_cons_zero, List.set_cons_succ, s_cNone, s_cPart, s_intD, s_cRng1, s_walkL, s_walkT, s_lenT, s_lenL, s_lenS, s_slT, s_slL, if_true, if_false, decide_true, decide_false, Bool.not_true, Bool.not_false, Bool.and_true, Bool.and_false, Bool.true_and, Bool.false_and, Bool.false_eq_true, decide_eq_true_eq, s_cEnum, s_sPut, s_revL, s_revT, s_listL, s_listT, s_tupleL, s_tupleT, s_isDicLst, s_isDicTup, s_isDicInt, wipeE_nil, wipeE_cons, w02, s_cLc2, lcAll, s_lcTwo, idx_w0, idx_w1, ml _ w1, ml _ w2, wy_eq, List.singleton_append, List.cons_append, List.nil_append, mk4]
      rw [lc _ rfl]
      have ev1 : (evP w).1.natAbs < 2 ^ 5 := by unfold evP; simp only; omega
      have ev2 : (evP w).2.natAbs < 2 ^ 5 := by unfold evP; simp only; omega
      have g1 := fs ((evP w).1 + 0, (evP w).2 + 0) (by simp only; omega) (by simp only; omega)
      have g2 := fs ((evP w).1 + 0, (evP w).2 + 2) (by simp only; omega) (by simp only; omega)
      have g3 := fs ((evP w).1 + 2, (evP w).2 + 0) (by simp only; omega) (by simp only; omega)
      have g4 := fs ((evP w).1 + 2, (evP w).2 + 2) (by simp only; omega) (by simp only; omega)
      have mn : min1D (.lst [.int (sideI (oddP p) (oddP q) ((evP w).1 + 0, (evP w).2 + 0)), .int (sideI (oddP p) (oddP q) ((evP w).1 + 0, (evP w).2 + 2)), .int (sideI (oddP p) (oddP q) ((evP w).1 + 2, (evP w).2 + 0)), .int (sideI (oddP p) (oddP q) ((evP w).1 + 2, (evP w).2 + 2))]) = some (.int (minL (sidesL (oddP p) (oddP q) (evP w)))) := min1_ev (l := sidesL (oddP p) (oddP q) (evP w)) (by unfold sidesL; simp)
      have mx : max1D (.lst [.int (sideI (oddP p) (oddP q) ((evP w).1 + 0, (evP w).2 + 0)), .int (sideI (oddP p) (oddP q) ((evP w).1 + 0, (evP w).2 + 2)), .int (sideI (oddP p) (oddP q) ((evP w).1 + 2, (evP w).2 + 0)), .int (sideI (oddP p) (oddP q) ((evP w).1 + 2, (evP w).2 + 2))]) = some (.int (maxL (sidesL (oddP p) (oddP q) (evP w)))) := max1_ev (l := sidesL (oddP p) (oddP q) (evP w)) (by unfold sidesL; simp)
      unfold barR3
      simp only [s_sSeq, s_sNil, s_sRet, s_sRetT, s_sIf, s_sAsg, s_sPar, s_sSetM, s_cND, s_cC, s_cB, s_cU, s_cTup, s_cLst, s_cNil, s_cCons, s_cCall, s_cFn, s_cIx, s_cAnd, s_cOr, s_cNot, s_cIf, s_cTr, s_cBT, s_cAndT, s_cOrT, s_cNotT, s_cCh, s_cChT, s_cSl, s_sFor, s_cWalk, s_cLc, s_lcOne, s_cTrue, s_sApp, s_gN, s_gT, s_gsNil, s_gsCons, s_cV0, s_cVs, s_finR, s_finN, s_boolD, s_truB, s_setAll0, s_setAll1, s_op1, s_op2, s_abs, s_addI, s_subI, eqI, neI, ltI, gtI, leI, geI, mkTup1, mkTup2, mkTup3, idx_t0, idx_t1, idx_t2, obS, omS, List.set_cons_zero, List.set_cons_succ, s_cNone, s_cPart, s_intD, s_cRng1, s_walkL, s_walkT, s_lenT, s_lenL, s_lenS, s_slT, s_slL, if_true, if_false, decide_true, decide_false, Bool.not_true, Bool.not_false, Bool.and_true, Bool.and_false, Bool.true_and, Bool.false_and, Bool.false_eq_true, decide_eq_true_eq, s_cEnum, s_sPut, s_revL, s_revT, s_listL, s_listT, s_tupleL, s_tupleT, s_isDicLst, s_isDicTup, s_isDicInt, wipeE_nil, wipeE_cons, lcAll, g1, g2, g3, g4, List.cons_append, List.nil_append, mk4]
      unfold barR4
      simp only [s_sSeq, s_sNil, s_sRet, s_sRetT, s_sIf, s_sAsg, s_sPar, s_sSetM, s_cND, s_cC, s_cB, s_cU, s_cTup, s_cLst, s_cNil, s_cCons, s_cCall, s_cFn, s_cIx, s_cAnd, s_cOr, s_cNot, s_cIf, s_cTr, s_cBT, s_cAndT, s_cOrT, s_cNotT, s_cCh, s_cChT, s_cSl, s_sFor, s_cWalk, s_cLc, s_lcOne, s_cTrue, s_sApp, s_gN, s_gT, s_gsNil, s_gsCons, s_cV0, s_cVs, s_finR, s_finN, s_boolD, s_truB, s_setAll0, s_setAll1, s_op1, s_op2, s_abs, s_addI, s_subI, eqI, neI, ltI, gtI, leI, geI, mkTup1, mkTup2, mkTup3, idx_t0, idx_t1, idx_t2, obS, omS, List.set_cons_zero, List.set_cons_succ, s_cNone, s_cPart, s_intD, s_cRng1, s_walkL, s_walkT, s_lenT, s_lenL, s_lenS, s_slT, s_slL, if_true, if_false, decide_true, decide_false, Bool.not_true, Bool.not_false, Bool.and_true, Bool.and_false, Bool.true_and, Bool.false_and, Bool.false_eq_true, decide_eq_true_eq, s_cEnum, s_sPut, s_revL, s_revT, s_listL, s_listT, s_tupleL, s_tupleT, s_isDicLst, s_isDicTup, s_isDicInt, wipeE_nil, wipeE_cons, mn, mx]
      by_cases z : minL (sidesL (oddP p) (oddP q) (evP w)) ≤ 0
      · simp only [z, decide_true, if_true, s_sSeq, s_sNil, s_sRet, s_sRetT, s_sIf, s_sAsg, s_sPar, s_sSetM, s_cND, s_cC, s_cB, s_cU, s_cTup, s_cLst, s_cNil, s_cCons, s_cCall, s_cFn, s_cIx, s_cAnd, s_cOr, s_cNot, s_cIf, s_cTr, s_cBT, s_cAndT, s_cOrT, s_cNotT, s_cCh, s_cChT, s_cSl, s_sFor, s_cWalk, s_cLc, s_lcOne, s_cTrue, s_sApp, s_gN, s_gT, s_gsNil, s_gsCons, s_cV0, s_cVs, s_finR, s_finN, s_boolD, s_truB, s_setAll0, s_setAll1, s_op1, s_op2, s_abs, s_addI, s_subI, eqI, neI, ltI, gtI, leI, geI, mkTup1, mkTup2, mkTup3, idx_t0, idx_t1, idx_t2, obS, omS, List.set_cons_zero, List.set_cons_succ, s_cNone, s_cPart, s_intD, s_cRng1, s_walkL, s_walkT, s_lenT, s_lenL, s_lenS, s_slT, s_slL, if_true, if_false, decide_true, decide_false, Bool.not_true, Bool.not_false, Bool.and_true, Bool.and_false, Bool.true_and, Bool.false_and, Bool.false_eq_true, decide_eq_true_eq, s_cEnum, s_sPut, s_revL, s_revT, s_listL, s_listT, s_tupleL, s_tupleT, s_isDicLst, s_isDicTup, s_isDicInt, wipeE_nil, wipeE_cons]
      · simp only [z, decide_false, Bool.false_eq_true, if_false, s_sSeq, s_sNil, s_sRet, s_sRetT, s_sIf, s_sAsg, s_sPar, s_sSetM, s_cND, s_cC, s_cB, s_cU, s_cTup, s_cLst, s_cNil, s_cCons, s_cCall, s_cFn, s_cIx, s_cAnd, s_cOr, s_cNot, s_cIf, s_cTr, s_cBT, s_cAndT, s_cOrT, s_cNotT, s_cCh, s_cChT, s_cSl, s_sFor, s_cWalk, s_cLc, s_lcOne, s_cTrue, s_sApp, s_gN, s_gT, s_gsNil, s_gsCons, s_cV0, s_cVs, s_finR, s_finN, s_boolD, s_truB, s_setAll0, s_setAll1, s_op1, s_op2, s_abs, s_addI, s_subI, eqI, neI, ltI, gtI, leI, geI, mkTup1, mkTup2, mkTup3, idx_t0, idx_t1, idx_t2, obS, omS, List.set_cons_zero, List.set_cons_succ, s_cNone, s_cPart, s_intD, s_cRng1, s_walkL, s_walkT, s_lenT, s_lenL, s_lenS, s_slT, s_slL, if_true, if_false, decide_true, decide_false, Bool.not_true, Bool.not_false, Bool.and_true, Bool.and_false, Bool.true_and, Bool.false_and, Bool.false_eq_true, decide_eq_true_eq, s_cEnum, s_sPut, s_revL, s_revT, s_listL, s_listT, s_tupleL, s_tupleT, s_isDicLst, s_isDicTup, s_isDicInt, wipeE_nil, wipeE_cons]
end L
end
section
open PySem PySem.Spec PyProof.Rows L2 RE
namespace L
theorem cell_ev (n : Nat) (ns : List Int) (k : Nat) (hn : ns.length ≤ 63) (hk : k ≤ 1000) : ∃ c : Int, lvl (DT rows) (n + 1) "_law_cell" [.scr ns, .int (k : Int)] = some (.int c) := by
  rw [v__law_cell]
  have m := mul_ev (i := 7919) (j := (k : Int)) (by decide) (wim_of (k := 20) (by omega) (by decide))
  by_cases h1 : (k : Int) < (ns.length : Int)
  · refine ⟨ns[k]'(by omega), ?_⟩
    simp [b__law_cell, h1, idx_scr (show k < ns.length by omega)]
  · by_cases h2 : ns = []
    · subst h2
      refine ⟨7919 * k + 101, ?_⟩
      have h1 : ¬ (k : Int) < 0 := by omega
      simp [b__law_cell, m, h1]
    · have h3 : 0 < ns.length := List.length_pos_iff.mpr h2
      have h4 : (ns.length : Int) ≠ 0 := by omega
      have e := mod_ev (i := (k : Int)) h4
      rw [fmod_nn] at e
      have hl := Nat.mod_lt k h3
      refine ⟨(ns[k % ns.length]'hl).fmod 1000003 + 7919 * k, ?_⟩
      have e2 := mod_ev (i := ns[k % ns.length]'hl) (j := 1000003) (by decide)
      have i2 := idx_scr hl
      simp only [b__law_cell, s_sSeq, s_sIf, s_cBT, s_cV0, s_cVs, s_cCall, s_cCons, s_cNil, obS, s_op1, s_lenS, ltI, s_boolD, h1, decide_false, Bool.false_eq_true, if_false, s_sNil, eqI, s_cC, h4, s_sRet, s_cB, s_cIx, e, i2, e2, m, s_addI, omS, s_finR]
      rfl
end L
namespace RE
def primesI : List Int := [2147483647, 2147483629, 2147483587, 2147483579, 2147483563, 2147483549, 2147483543, 2147483497]
def primesD : List D := primesI.map .int
noncomputable def drawB : SS := (sSeq (sAsg (cB mulD (cB modD (cV 5) (cIx (cV 4) (cB modD (cV 8) (cC (.int 8))))) (cB addD (cC (.int 48271)) (cB mulD (cB mulD (cC (.int 2)) (cV 8)) (cV 8)))) (gN 9)) (sSeq (sAsg (cB addD (cB addD (cV 9) (cB mulD (cB mulD (cC (.int 7919)) (cB addD (cV 8) (cC (.int 1)))) (cB addD (cV 8) (cC (.int 1))))) (cB mulD (cC (.int 104729)) (cV 1))) (gN 9)) (sSeq (sAsg (cB modD (cV 9) (cIx (cV 4) (cB modD (cB addD (cB mulD (cC (.int 3)) (cV 8)) (cV 1)) (cC (.int 8))))) (gN 9)) (sSeq (sAsg (cB modD (cB mulD (cB mulD (cV 9) (cV 9)) (cV 9)) (cIx (cV 4) (cB modD (cB addD (cV 8) (cC (.int 5))) (cC (.int 8))))) (gN 9)) (sSeq (sIf (cBT gtD (cV 6) (cC (.int 0))) (sSeq (sAsg (cV 6) (gN 9)) (sNil)) (sNil)) (sSeq (sApp 7 (cB modD (cV 9) (cV 3))) (sSeq (sAsg (cB fdivD (cV 6) (cV 3)) (gN 6)) (sNil))))))))
theorem prime_at (i : Nat) : ∃ p : Int, 0 < p ∧ p < 2 ^ 31 ∧ idxD (.tup primesD) (.int ((i % 8 : Nat) : Int)) = some (.int p) := by
  have hl : i % 8 < primesD.length := by
    have : i % 8 < 8 := Nat.mod_lt _ (by decide)
    exact this
  have hI : i % 8 < primesI.length := hl
  have hb : ∀ x ∈ primesI, 0 < x ∧ x < 2 ^ 31 := by decide
  refine ⟨primesI[i % 8], (hb _ (List.getElem_mem hI)).1, (hb _ (List.getElem_mem hI)).2, ?_⟩
  rw [idx_tup hl]
  simp [primesD]
theorem mod8 (i : Nat) : modD (.int (i : Int)) (.int 8) = some (.int ((i % 8 : Nat) : Int)) := by
  rw [mod_ev (by decide)]
  exact congrArg (fun z => some (D.int z)) (fmod_nn i 8)
theorem mk8 : mkTup [.int 2147483647, .int 2147483629, .int 2147483587, .int 2147483579, .int 2147483563, .int 2147483549, .int 2147483543, .int 2147483497] = some (.tup primesD) := rfl
theorem mk0 : mkLst [] = some (.lst []) := rfl
theorem isDicL (l : List D) : isDic (.lst l) = false := rfl
/-- one turn -/
theorem draw_step (F : Fn) (s m : D) (k j : Nat) (base cell rest : Int) (row : List D) (x9 : Option D) (hk : k ≤ 1000) (hj : j ≤ 1000) (hb : 0 < base) (hb2 : base < 2 ^ 31) (hr : row.length < 100000) :
    ∃ (d rest' y9 : Int), 0 ≤ d ∧ d < base ∧ drawB F [some s, some (.int (k : Int)), some m, some (.int base), some (.tup primesD), some (.int cell), some (.int rest), some (.lst row), some (.int (j : Int)), x9] =
      some (.nx [some s, some (.int (k : Int)), some m, some (.int base), some (.tup primesD), some (.int cell), some (.int rest'), some (.lst (row ++ [.int d])), some (.int (j : Int)), some (.int y9)]) := by
  obtain ⟨p1, a1, b1, c1⟩ := prime_at j
  obtain ⟨p2, a2, b2, c2⟩ := prime_at (3 * j + k)
  obtain ⟨p3, a3, b3, c3⟩ := prime_at (j + 5)
  have e1 := mod8 j
  have e2 := mod8 (3 * j + k)
  have e3 := mod8 (j + 5)
  have f1 := mod_ev (i := cell) (j := p1) (by omega)
  have r1 := fmod_rng cell a1
  have w1 : wim (cell.fmod p1) = true := wim_of (k := 31) (by omega) (by decide)
  have m1 := mul_ev (i := 2) (j := (j : Int)) (by decide) (wim_of (k := 11) (by omega) (by decide))
  have m2 := mul_ev (i := 2 * (j : Int)) (j := (j : Int)) (wim_of (k := 12) (by omega) (by decide)) (wim_of (k := 11) (by omega) (by decide))
  have z1 : (2 * (j : Int) * j).natAbs < 2 ^ 23 := mul_sz (k := 12) (l := 11) (by omega) (by omega)
  have m3 := mul_ev (i := cell.fmod p1) (j := 48271 + 2 * (j : Int) * j) w1 (wim_of (k := 25) (by omega) (by decide))
  have m4 := mul_ev (i := 7919) (j := (j : Int) + 1) (by decide) (wim_of (k := 12) (by omega) (by decide))
  have m5 := mul_ev (i := 7919 * ((j : Int) + 1)) (j := (j : Int) + 1) (wim_of (k := 30) (by omega) (by decide)) (wim_of (k := 12) (by omega) (by decide))
  have m6 := mul_ev (i := 104729) (j := (k : Int)) (by decide) (wim_of (k := 12) (by omega) (by decide))
  have m7 := mul_ev (i := 3) (j := (j : Int)) (by decide) (wim_of (k := 12) (by omega) (by decide))
  generalize hA : cell.fmod p1 * (48271 + 2 * (j : Int) * j) + 7919 * ((j : Int) + 1) * ((j : Int) + 1) + 104729 * (k : Int) = A
  have f2 := mod_ev (i := A) (j := p2) (by omega)
  have r2 := fmod_rng A a2
  generalize hB : A.fmod p2 = B at *
  have m8 := mul_ev (i := B) (j := B) (wim_of (k := 31) (by omega) (by decide)) (wim_of (k := 31) (by omega) (by decide))
  have z2 : (B * B).natAbs < 2 ^ 62 := mul_sz (k := 31) (l := 31) (by omega) (by omega)
  have m9 := mul_ev (i := B * B) (j := B) (wim_of z2 (by decide)) (wim_of (k := 31) (by omega) (by decide))
  have f3 := mod_ev (i := B * B * B) (j := p3) (by omega)
  have f4 : ∀ x : Int, modD (.int x) (.int base) = some (.int (x.fmod base)) := fun x => mod_ev (by omega)
  have f5 := fdiv_ev (i := rest) (j := base) (by omega) (wid_of (k := 31) (by omega) (by decide))
  have q2 : (3 * (j : Int) + (k : Int)) = ((3 * j + k : Nat) : Int) := by omega
  have q3 : ((j : Int) + 5) = ((j + 5 : Nat) : Int) := by omega
  have hf := fits_of (n := row.length + 1) (by omega)
  by_cases hp : 0 < rest
  · refine ⟨rest.fmod base, rest.fdiv base, rest, (fmod_rng _ hb).1, (fmod_rng _ hb).2, ?_⟩
    simp only [s_sSeq, s_sNil, s_sRet, s_sRetT, s_sIf, s_sAsg, s_sPar, s_sSetM, s_cND, s_cC, s_cB, s_cU, s_cTup, s_cLst, s_cNil, s_cCons, s_cCall, s_cFn, s_cIx, s_cAnd, s_cOr, s_cNot, s_cIf, s_cTr, s_cBT, s_cAndT, s_cOrT, s_cNotT, s_cCh, s_cChT, s_cSl, s_sFor, s_cWalk, s_cLc, s_lcOne, s_cTrue, s_sApp, s_gN, s_gT, s_gsNil, s_gsCons, s_cV0, s_cVs, s_finR, s_finN, s_boolD, s_truB, s_setAll0, s_setAll1, s_op1, s_op2, s_abs, s_addI, s_subI, eqI, neI, ltI, gtI, leI, geI, mkTup1, mkTup2, mkTup3, idx_t0, idx_t1, idx_t2, obS, omS, List.set_cons_zero, List.set_cons_succ, s_cNone, s_cPart, s_intD, s_cRng1, s_walkL, s_walkT, s_lenT, s_lenL, s_lenS, s_slT, s_slL, if_true, if_false, decide_true, decide_false, Bool.not_true, Bool.not_false, Bool.and_true, Bool.and_false, Bool.true_and, Bool.false_and, Bool.false_eq_true, decide_eq_true_eq, drawB, e1, c1, f1, m1, m2, m3, m4, m5, m6, m7, hA, q2, e2, c2, f2, q3, e3, c3, m8, m9, f3, hp, f4, f5, hf]
  · refine ⟨((B * B * B).fmod p3).fmod base, rest.fdiv base, (B * B * B).fmod p3, (fmod_rng _ hb).1, (fmod_rng _ hb).2, ?_⟩
    simp only [s_sSeq, s_sNil, s_sRet, s_sRetT, s_sIf, s_sAsg, s_sPar, s_sSetM, s_cND, s_cC, s_cB, s_cU, s_cTup, s_cLst, s_cNil, s_cCons, s_cCall, s_cFn, s_cIx, s_cAnd, s_cOr, s_cNot, s_cIf, s_cTr, s_cBT, s_cAndT, s_cOrT, s_cNotT, s_cCh, s_cChT, s_cSl, s_sFor, s_cWalk, s_cLc, s_lcOne, s_cTrue, s_sApp, s_gN, s_gT, s_gsNil, s_gsCons, s_cV0, s_cVs, s_finR, s_finN, s_boolD, s_truB, s_setAll0, s_setAll1, s_op1, s_op2, s_abs, s_addI, s_subI, eqI, neI, ltI, gtI, leI, geI, mkTup1, mkTup2, mkTup3, idx_t0, idx_t1, idx_t2, obS, omS, List.set_cons_zero, List.set_cons_succ, s_cNone, s_cPart, s_intD, s_cRng1, s_walkL, s_walkT, s_lenT, s_lenL, s_lenS, s_slT, s_slL, if_true, if_false, decide_true, decide_false, Bool.not_true, Bool.not_false, Bool.and_true, Bool.and_false, Bool.true_and, Bool.false_and, Bool.false_eq_true, decide_eq_true_eq, drawB, e1, c1, f1, m1, m2, m3, m4, m5, m6, m7, hA, q2, e2, c2, f2, q3, e3, c3, m8, m9, f3, hp, f4, f5, hf]
/-- the whole loop -/
theorem draw_loop (F : Fn) (s m : D) (k : Nat) (base cell : Int) (hk : k ≤ 1000) (hb : 0 < base) (hb2 : base < 2 ^ 31) : ∀ (js : List Nat) (rest : Int) (row : List Int) (x8 x9 : Option D), (∀ j ∈ js, j ≤ 1000) → row.length + js.length ≤ 1000 →
    ∃ (out : List Int) (rest' : Int) (y8 y9 : Option D), out.length = js.length ∧ (∀ x ∈ out, 0 ≤ x ∧ x < base) ∧ forD (gN 8) (drawB F) (js.map fun i => .int (i : Nat)) [some s, some (.int (k : Int)), some m, some (.int base), some (.tup primesD), some (.int cell), some (.int rest), some (.lst (row.map .int)), x8, x9] =
      some (.nx [some s, some (.int (k : Int)), some m, some (.int base), some (.tup primesD), some (.int cell), some (.int rest'), some (.lst ((row ++ out).map .int)), y8, y9])
  | [], rest, row, x8, x9, _, _ => ⟨[], rest, x8, x9, rfl, by simp, by simp [forD]⟩
  | j :: js, rest, row, x8, x9, hj, hl => by
    rw [List.length_cons] at hl
    obtain ⟨d, r1, y9, h1, h2, h3⟩ := draw_step F s m k j base cell rest (row.map .int) x9 hk (hj j List.mem_cons_self) hb hb2 (by rw [List.length_map]; omega)
    obtain ⟨out, r2, y8, y9', h4, h5, h6⟩ := draw_loop F s m k base cell hk hb hb2 js r1 (row ++ [d]) (some (.int (j : Int))) (some (.int y9)) (fun i hi => hj i (List.mem_cons_of_mem _ hi)) (by simp; omega)
    refine ⟨d :: out, r2, y8, y9', by simp [h4], ?_, ?_⟩
    · intro x hx
      rcases List.mem_cons.mp hx with rfl | hx
      · exact ⟨h1, h2⟩
      · exact h5 x hx
    · rw [List.map_cons, forD]
      simp only [s_gN, obS, List.set_cons_succ, List.set_cons_zero]
      rw [h3]
      simp only [obS]
      rw [List.map_append] at h6
      have e : (row ++ [d]) ++ out = row ++ d :: out := by simp
      rw [e] at h6
      exact h6
end RE
namespace L
theorem draws_eq : b__law_draws = sSeq (sAsg (cTup (cCons (cC (.int 2147483647)) (cCons (cC (.int 2147483629)) (cCons (cC (.int 2147483587)) (cCons (cC (.int 2147483579)) (cCons (cC (.int 2147483563)) (cCons (cC (.int 2147483549)) (cCons (cC (.int 2147483543)) (cCons (cC (.int 2147483497)) (cNil)))))))))) (gN 4)) (sSeq (sAsg (cFn "_law_cell" (cCons (cV 0) (cCons (cV 1) (cNil)))) (gN 5)) (sSeq (sAsg (cC (.int 0)) (gN 6)) (sSeq (sIf (cBT geD (cV 5) (cB powD (cC (.int 10)) (cC (.int 18)))) (sSeq (sAsg (cV 5) (gN 6)) (sNil)) (sNil)) (sSeq (sSetM 7 (cND (cLst (cNil)))) (sSeq (sFor (cRng1 (cV 2)) (gN 8) drawB) (sSeq (sRet (cV 7)) (sNil))))))) := rfl
theorem draws_pre (F : Fn) (R : SS) (s m : D) (k base c : Int) (hc : F "_law_cell" [s, .int k] = some (.int c)) : ∃ rest : Int, (sSeq (sAsg (cTup (cCons (cC (.int 2147483647)) (cCons (cC (.int 2147483629)) (cCons (cC (.int 2147483587)) (cCons (cC (.int 2147483579)) (cCons (cC (.int 2147483563)) (cCons (cC (.int 2147483549)) (cCons (cC (.int 2147483543)) (cCons (cC (.int 2147483497)) (cNil)))))))))) (gN 4)) (sSeq (sAsg (cFn "_law_cell" (cCons (cV 0) (cCons (cV 1) (cNil)))) (gN 5)) (sSeq (sAsg (cC (.int 0)) (gN 6)) (sSeq (sIf (cBT geD (cV 5) (cB powD (cC (.int 10)) (cC (.int 18)))) (sSeq (sAsg (cV 5) (gN 6)) (sNil)) (sNil)) (sSeq (sSetM 7 (cND (cLst (cNil)))) R))))) F [some s, some (.int k), some m, some (.int base), none, none, none, none, none, none] = R F [some s, some (.int k), some m, some (.int base), some (.tup primesD), some (.int c), some (.int rest), some (.lst []), none, none] := by
  have pw : powD (.int 10) (.int 18) = some (.int 1000000000000000000) := by simp [powD]
  by_cases hp : (1000000000000000000 : Int) ≤ c
  · refine ⟨c, ?_⟩
    simp only [s_sSeq, s_sNil, s_sRet, s_sRetT, s_sIf, s_sAsg, s_sPar, s_sSetM, s_cND, s_cC, s_cB, s_cU, s_cTup, s_cLst, s_cNil, s_cCons, s_cCall, s_cFn, s_cIx, s_cAnd, s_cOr, s_cNot, s_cIf, s_cTr, s_cBT, s_cAndT, s_cOrT, s_cNotT, s_cCh, s_cChT, s_cSl, s_sFor, s_cWalk, s_cLc, s_lcOne, s_cTrue, s_sApp, s_gN, s_gT, s_gsNil, s_gsCons, s_cV0, s_cVs, s_finR, s_finN, s_boolD, s_truB, s_setAll0, s_setAll1, s_op1, s_op2, s_abs, s_addI, s_subI, eqI, neI, ltI, gtI, leI, geI, mkTup1, mkTup2, mkTup3, idx_t0, idx_t1, idx_t2, obS, omS, List.set_cons_zero, List.set_cons_succ, s_cNone, s_cPart, s_intD, s_cRng1, s_walkL, s_walkT, s_lenT, s_lenL, s_lenS, s_slT, s_slL, if_true, if_false, decide_true, decide_false, Bool.not_true, Bool.not_false, Bool.and_true, Bool.and_false, Bool.true_and, Bool.false_and, Bool.false_eq_true, decide_eq_true_eq, hc, pw, hp, mk8, mk0, isDicL]
  · refine ⟨0, ?_⟩
    simp only [s_sSeq, s_sNil, s_sRet, s_sRetT, s_sIf, s_sAsg, s_sPar, s_sSetM, s_cND, s_cC, s_cB, s_cU, s_cTup, s_cLst, s_cNil, s_cCons, s_cCall, s_cFn, s_cIx, s_cAnd, s_cOr, s_cNot, s_cIf, s_cTr, s_cBT, s_cAndT, s_cOrT, s_cNotT, s_cCh, s_cChT, s_cSl, s_sFor, s_cWalk, s_cLc, s_lcOne, s_cTrue, s_sApp, s_gN, s_gT, s_gsNil, s_gsCons, s_cV0, s_cVs, s_finR, s_finN, s_boolD, s_truB, s_setAll0, s_setAll1, s_op1, s_op2, s_abs, s_addI, s_subI, eqI, neI, ltI, gtI, leI, geI, mkTup1, mkTup2, mkTup3, idx_t0, idx_t1, idx_t2, obS, omS, List.set_cons_zero, List.set_cons_succ, s_cNone, s_cPart, s_intD, s_cRng1, s_walkL, s_walkT, s_lenT, s_lenL, s_lenS, s_slT, s_slL, if_true, if_false, decide_true, decide_false, Bool.not_true, Bool.not_false, Bool.and_true, Bool.and_false, Bool.true_and, Bool.false_and, Bool.false_eq_true, decide_eq_true_eq, hc, pw, hp, mk8, mk0, isDicL]
theorem draws_post (F : Fn) (many : Nat) (base c : Int) (rest : Int) (out : List Int) (r' : Int) (y8 y9 : Option D) (hr : rng1D (.int (many : Int)) = some ((List.range many).map fun i => .int (i : Nat)))
   (s : D) (k : Int) (h3 : forD (gN 8) (drawB F) ((List.range many).map fun i => .int (i : Nat)) [some s, some (.int (k : Int)), some (.int (many : Int)), some (.int base), some (.tup primesD), some (.int c), some (.int rest), some (.lst []), none, none] =
      some (.nx [some s, some (.int (k : Int)), some (.int (many : Int)), some (.int base), some (.tup primesD), some (.int c), some (.int r'), some (.lst (out.map .int)), y8, y9])) :
    ((sSeq (sFor (cRng1 (cV 2)) (gN 8) drawB) (sSeq (sRet (cV 7)) (sNil))) F [some s, some (.int (k : Int)), some (.int (many : Int)), some (.int base), some (.tup primesD), some (.int c), some (.int rest), some (.lst []), none, none]).bind (fin false) = some (.lst (out.map .int)) := by
  have e1 : sFor (cRng1 (cV 2)) (gN 8) drawB F [some s, some (.int (k : Int)), some (.int (many : Int)), some (.int base), some (.tup primesD), some (.int c), some (.int rest), some (.lst []), none, none] = some (.nx [some s, some (.int (k : Int)), some (.int (many : Int)), some (.int base), some (.tup primesD), some (.int c), some (.int r'), some (.lst (out.map .int)), y8, y9]) := by
    rw [s_sFor, s_cRng1, s_cVs, s_cVs, s_cV0, obS, hr, obS]
    exact h3
  rw [s_sSeq, e1]
  rfl
theorem draws_ev (n : Nat) (ns : List Int) (k many : Nat) (base : Int) (hn : ns.length ≤ 63) (hk : k ≤ 1000) (hm : many ≤ 1000) (hb : 0 < base) (hb2 : base < 2 ^ 31) :
    ∃ out : List Int, out.length = many ∧ (∀ x ∈ out, 0 ≤ x ∧ x < base) ∧ lvl (DT rows) (n + 2) "_law_draws" [.scr ns, .int (k : Int), .int (many : Int), .int base] = some (.lst (out.map .int)) := by
  obtain ⟨c, hc⟩ := cell_ev n ns k hn hk
  rw [v__law_draws, draws_eq]
  obtain ⟨rest, e⟩ := draws_pre (lvl (DT rows) (n + 1)) (sSeq (sFor (cRng1 (cV 2)) (gN 8) drawB) (sSeq (sRet (cV 7)) (sNil))) (.scr ns) (.int (many : Int)) (k : Int) base c hc
  rw [e]
  obtain ⟨out, r', y8, y9, h1, h2, h3⟩ := draw_loop (lvl (DT rows) (n + 1)) (.scr ns) (.int (many : Int)) k base c hk hb hb2 (List.range many) rest [] none none (fun j hj => by have := List.mem_range.mp hj; omega) (by simp; omega)
  have hr : rng1D (.int (many : Int)) = some ((List.range many).map fun i => .int (i : Nat)) := rng1_ev (by omega)
  exact ⟨out, by rw [h1, List.length_range], h2, draws_post _ many base c rest out r' y8 y9 hr _ _ h3⟩
end L
namespace RE
theorem eqD_cell (p q : Nat × Nat) : eqD (cellD p) (cellD q) = some (.bl (decide (p = q))) := by
  rw [cell_wy, cell_wy, eqD_wy]
  refine congrArg (fun z => some (D.bl z)) (decide_eq_decide.mpr ⟨fun h => ?_, fun h => by rw [h]⟩)
  have h1 := (Prod.mk.inj h).1
  have h2 := (Prod.mk.inj h).2
  exact Prod.ext (by omega) (by omega)
theorem neD_cell (p q : Nat × Nat) : neD (cellD p) (cellD q) = some (.bl (!decide (p = q))) := by
  rw [cell_wy, cell_wy, neD_wy]
  refine congrArg (fun z => some (D.bl (!z))) (decide_eq_decide.mpr ⟨fun h => ?_, fun h => by rw [h]⟩)
  have h1 := (Prod.mk.inj h).1
  have h2 := (Prod.mk.inj h).2
  exact Prod.ext (by omega) (by omega)
theorem eqv_cell (p q : Nat × Nat) : eqv (cellD p) (cellD q) = decide (p = q) := by
  have := eqD_cell p q
  unfold eqD at this
  split at this
  · exact D.bl.inj (Option.some.inj this)
  · cases this
theorem mem_cells (q : Nat × Nat) (l : List (Nat × Nat)) : inD (cellD q) (cellsD l) = some (.bl (decide (q ∈ l))) := by
  have h : inB (cellD q) (cellsD l) = if pd 64 (cellD q) && (l.map cellD).all (pd 64) then some (memD (cellD q) (l.map cellD)) else none := rfl
  have hc : (l.map cellD).all (pd 64) = true := by
    rw [List.all_eq_true]
    intro x hx
    obtain ⟨p, _, rfl⟩ := List.mem_map.mp hx
    exact pd_cell 63 p
  unfold inD
  rw [h, pd_cell 63, hc, if_pos (show (true && true) = true from rfl), Option.map_some]
  refine congrArg (fun z => some (D.bl z)) ?_
  unfold memD
  rw [List.any_map, Bool.eq_iff_iff, List.any_eq_true, decide_eq_true_eq]
  constructor
  · rintro ⟨p, hp, e⟩
    have e : eqv (cellD p) (cellD q) = true := e
    rw [eqv_cell, decide_eq_true_eq] at e
    exact e ▸ hp
  · intro hq
    refine ⟨q, hq, ?_⟩
    show eqv (cellD q) (cellD q) = true
    rw [eqv_cell, decide_eq_true_eq]
theorem mem_sign {rs : List Str} {w c : Nat} {p : Nat × Nat} : p ∈ signL rs w c ↔ p.1 < w ∧ p.2 < rs.length ∧ at_ rs p.1 p.2 = c := by
  unfold signL
  rw [List.mem_flatMap]
  constructor
  · rintro ⟨x, hx, hp⟩
    obtain ⟨y, hy, rfl⟩ := List.mem_map.mp hp
    obtain ⟨hy1, hy2⟩ := List.mem_filter.mp hy
    exact ⟨List.mem_range.mp hx, List.mem_range.mp hy1, of_decide_eq_true hy2⟩
  · rintro ⟨h1, h2, h3⟩
    exact ⟨p.1, List.mem_range.mpr h1, List.mem_map.mpr ⟨p.2, List.mem_filter.mpr ⟨List.mem_range.mpr h2, decide_eq_true h3⟩, rfl⟩⟩
theorem RoomOk.in6 {rs : List Str} {w c : Nat} (h : RoomOk rs w) {p : Nat × Nat} (hp : p ∈ signL rs w c) : In6 p := by
  obtain ⟨h1, h2, _⟩ := mem_sign.mp hp
  have := h.w6
  have := h.h6
  exact ⟨by omega, by omega⟩
def seesB (rs : List Str) (w : Nat) (p q : Nat × Nat) : Bool := !decide (p = q) && !((signL rs w 35).any fun c => barI (oddP p) (oddP q) (evP c))
theorem oddP_inj {p q : Nat × Nat} (h : oddP p = oddP q) : p = q := by
  have h1 := (Prod.mk.inj h).1
  have h2 := (Prod.mk.inj h).2
  exact Prod.ext (by omega) (by omega)
theorem pick_map {α β : Type} (f : α → β) (l : List α) (lo hi : Option Int) (n : Int) : pickL (l.map f) lo hi n = (pickL l lo hi n).map f := by
  unfold pickL
  rw [List.length_map, List.map_filterMap]
  congr 1
  funext i
  simp
theorem pick_fits {α : Type} (l : List α) (j : Nat) (n : Nat) (hn : 0 < n) (hl : l.length ≤ 100000) : fits (pickL l (some (j : Int)) none (n : Int)).length = true := by
  refine fits_of (Nat.le_trans (pick_len l _ _ _) ?_)
  refine Nat.le_trans (sliceRange_len_le _ _ _ ?_) ?_
  · show (n : Int) ≠ 0; omega
  · have hs : (sliceBounds (some (j : Int)) none (some (n : Int)) l.length).2.2 = (n : Int) := rfl
    rw [hs, if_pos (by omega)]
    have h2 : (sliceBounds (some (j : Int)) none (some (n : Int)) l.length).2.1 = (l.length : Int) := by
      show (if (n : Int) > 0 then (l.length : Int) else -1) = _
      rw [if_pos (by omega)]
    have h1 : 0 ≤ (sliceBounds (some (j : Int)) none (some (n : Int)) l.length).1 := by
      show 0 ≤ (if (n : Int) > 0 then max 0 (min (if (j : Int) < 0 then (j : Int) + l.length else j) (l.length : Int)) else _)
      rw [if_pos (by omega)]
      omega
    rw [h2]
    omega
end RE
namespace L
theorem sees_ev (n : Nat) {rs : List Str} {w : Nat} (h : RoomOk rs w) (p q : Nat × Nat) (hp : In6 p) (hq : In6 q) : lvl (DT rows) (n + 3) "sees" [roomD rs, cellD p, cellD q] = some (.bl (seesB rs w p q)) := by
  have fs : lvl (DT rows) (n + 2) "signed" [roomD rs, .str "#"] = some (cellsD (signL rs w 35)) := by rw [lit_hash]; exact signed_ev (n + 1) h 35
  have fb : ∀ c ∈ signL rs w 35, lvl (DT rows) (n + 2) "is_barred" [cellD p, cellD q, cellD c] = some (.bl (barI (oddP p) (oddP q) (evP c))) := fun c hc => is_barred_ev n p q c hp hq (h.in6 hc)
  have sl := h.cells_len 35
  rw [v_sees]
  generalize lvl (DT rows) (n + 2) = F at *
  unfold seesB
  generalize signL rs w 35 = C at *
  have L1 : lcAll (lcOne (gN 3) cTrue (cFn "is_barred" (cCons (cV 1) (cCons (cV 2) (cCons (cV 3) (cNil))))) F [some (roomD rs), some (cellD p), some (cellD q), none]) (C.map cellD) = some (C.map fun c => .bl (barI (oddP p) (oddP q) (evP c))) := lc_map fun c hc => by
    simp only [s_sSeq, s_sNil, s_sRet, s_sRetT, s_sIf, s_sAsg, s_sPar, s_sSetM, s_cND, s_cC, s_cB, s_cU, s_cTup, s_cLst, s_cNil, s_cCons, s_cCall, s_cFn, s_cIx, s_cAnd, s_cOr, s_cNot, s_cIf, s_cTr, s_cBT, s_cAndT, s_cOrT, s_cNotT, s_cCh, s_cChT, s_cSl, s_sFor, s_cWalk, s_cLc, s_lcOne, s_cTrue, s_sApp, s_gN, s_gT, s_gsNil, s_gsCons, s_cV0, s_cVs, s_finR, s_finN, s_boolD, s_truB, s_setAll0, s_setAll1, s_op1, s_op2, s_abs, s_addI, s_subI, eqI, neI, ltI, gtI, leI, geI, mkTup1, mkTup2, mkTup3, idx_t0, idx_t1, idx_t2, obS, omS, List.set_cons_zero, List.set_cons_succ, s_cNone, s_cPart, s_intD, s_cRng1, s_walkL, s_walkT, s_lenT, s_lenL, s_lenS, s_slT, s_slL, if_true, if_false, decide_true, decide_false, Bool.not_true, Bool.not_false, Bool.and_true, Bool.and_false, Bool.true_and, Bool.false_and, Bool.false_eq_true, decide_eq_true_eq, s_cEnum, s_sPut, s_revL, s_revT, s_listL, s_listT, s_tupleL, s_tupleT, s_isDicLst, s_isDicTup, s_isDicInt, wipeE_nil, wipeE_cons, fb c hc]
  have L2 : mkLst (C.map fun c => .bl (barI (oddP p) (oddP q) (evP c))) = some (.lst (C.map fun c => .bl (barI (oddP p) (oddP q) (evP c)))) := mkLst_ev (by rw [List.length_map]; omega)
  have L3 := anyD_map (fun c : Nat × Nat => barI (oddP p) (oddP q) (evP c)) C
  have wl : walkL (cellsD C) = some (C.map cellD) := rfl
  have ne := neD_cell p q
  unfold b_sees
  by_cases e : p = q
  · rw [decide_eq_true e] at ne ⊢
    simp only [s_sSeq, s_sNil, s_sRet, s_sRetT, s_sIf, s_sAsg, s_sPar, s_sSetM, s_cND, s_cC, s_cB, s_cU, s_cTup, s_cLst, s_cNil, s_cCons, s_cCall, s_cFn, s_cIx, s_cAnd, s_cOr, s_cNot, s_cIf, s_cTr, s_cBT, s_cAndT, s_cOrT, s_cNotT, s_cCh, s_cChT, s_cSl, s_sFor, s_cWalk, s_cLc, s_lcOne, s_cTrue, s_sApp, s_gN, s_gT, s_gsNil, s_gsCons, s_cV0, s_cVs, s_finR, s_finN, s_boolD, s_truB, s_setAll0, s_setAll1, s_op1, s_op2, s_abs, s_addI, s_subI, eqI, neI, ltI, gtI, leI, geI, mkTup1, mkTup2, mkTup3, idx_t0, idx_t1, idx_t2, obS, omS, List.set_cons_zero, List.set_cons_succ, s_cNone, s_cPart, s_intD, s_cRng1, s_walkL, s_walkT, s_lenT, s_lenL, s_lenS, s_slT, s_slL, if_true, if_false, decide_true, decide_false, Bool.not_true, Bool.not_false, Bool.and_true, Bool.and_false, Bool.true_and, Bool.false_and, Bool.false_eq_true, decide_eq_true_eq, s_cEnum, s_sPut, s_revL, s_revT, s_listL, s_listT, s_tupleL, s_tupleT, s_isDicLst, s_isDicTup, s_isDicInt, wipeE_nil, wipeE_cons, ne]
  · rw [decide_eq_false e] at ne ⊢
    simp only [s_sSeq, s_sNil, s_sRet, s_sRetT, s_sIf, s_sAsg, s_sPar, s_sSetM, s_cND, s_cC, s_cB, s_cU, s_cTup, s_cLst, s_cNil, s_cCons, s_cCall, s_cFn, s_cIx, s_cAnd, s_cOr, s_cNot, s_cIf, s_cTr, s_cBT, s_cAndT, s_cOrT, s_cNotT, s_cCh, s_cChT, s_cSl, s_sFor, s_cWalk, s_cLc, s_lcOne, s_cTrue, s_sApp, s_gN, s_gT, s_gsNil, s_gsCons, s_cV0, s_cVs, s_finR, s_finN, s_boolD, s_truB, s_setAll0, s_setAll1, s_op1, s_op2, s_abs, s_addI, s_subI, eqI, neI, ltI, gtI, leI, geI, mkTup1, mkTup2, mkTup3, idx_t0, idx_t1, idx_t2, obS, omS, List.set_cons_zero, List.set_cons_succ, s_cNone, s_cPart, s_intD, s_cRng1, s_walkL, s_walkT, s_lenT, s_lenL, s_lenS, s_slT, s_slL, if_true, if_false, decide_true, decide_false, Bool.not_true, Bool.not_false, Bool.and_true, Bool.and_false, Bool.true_and, Bool.false_and, Bool.false_eq_true, decide_eq_true_eq, s_cEnum, s_sPut, s_revL, s_revT, s_listL, s_listT, s_tupleL, s_tupleT, s_isDicLst, s_isDicTup, s_isDicInt, wipeE_nil, wipeE_cons, ne, fs, wl, L1, L2, L3]
end L
namespace RE
theorem cut_but_last {α : Type} (l : List α) (x : α) : cutL (l ++ [x]) none (some (-1)) = l := by
  unfold cutL HT.sIx
  simp only [List.length_append, List.length_singleton, List.drop_zero, Nat.sub_zero]
  rw [if_pos (by decide), show ((-1 : Int) + ((l.length + 1 : Nat) : Int)).toNat = l.length by omega]
  simp
theorem s_negI (i : Int) : negD (.int i) = some (.int (-i)) := (rfl)
end RE
namespace L
theorem cells_ev (n : Nat) {rs : List Str} {w : Nat} (h : RoomOk rs w) : lvl (DT rows) (n + 2) "cells" [roomD rs] = some (cellsD (signL rs w 46)) := by
  have f := signed_ev n h 46
  rw [v_cells]
  generalize lvl (DT rows) (n + 1) = F at *
  unfold b_cells
  rw [← lit_dot] at f
  simp only [s_sSeq, s_sNil, s_sRet, s_sRetT, s_sIf, s_sAsg, s_sPar, s_sSetM, s_cND, s_cC, s_cB, s_cU, s_cTup, s_cLst, s_cNil, s_cCons, s_cCall, s_cFn, s_cIx, s_cAnd, s_cOr, s_cNot, s_cIf, s_cTr, s_cBT, s_cAndT, s_cOrT, s_cNotT, s_cCh, s_cChT, s_cSl, s_sFor, s_cWalk, s_cLc, s_lcOne, s_cTrue, s_sApp, s_gN, s_gT, s_gsNil, s_gsCons, s_cV0, s_cVs, s_finR, s_finN, s_boolD, s_truB, s_setAll0, s_setAll1, s_op1, s_op2, s_abs, s_addI, s_subI, eqI, neI, ltI, gtI, leI, geI, mkTup1, mkTup2, mkTup3, idx_t0, idx_t1, idx_t2, obS, omS, List.set_cons_zero, List.set_cons_succ, s_cNone, s_cPart, s_intD, s_cRng1, s_walkL, s_walkT, s_lenT, s_lenL, s_lenS, s_slT, s_slL, if_true, if_false, decide_true, decide_false, Bool.not_true, Bool.not_false, Bool.and_true, Bool.and_false, Bool.true_and, Bool.false_and, Bool.false_eq_true, decide_eq_true_eq, s_cEnum, s_sPut, s_revL, s_revT, s_listL, s_listT, s_tupleL, s_tupleT, s_isDicLst, s_isDicTup, s_isDicInt, wipeE_nil, wipeE_cons, f]
end L
namespace L
theorem seen_from_ev (n : Nat) {rs : List Str} {w : Nat} (h : RoomOk rs w) (p : Nat × Nat) (hp : In6 p) : lvl (DT rows) (n + 4) "seen_from" [roomD rs, cellD p] = some (cellsD ((signL rs w 46).filter fun q => seesB rs w p q)) := by
  have fs : lvl (DT rows) (n + 3) "cells" [roomD rs] = some (cellsD (signL rs w 46)) := cells_ev (n + 1) h
  have fb : ∀ q ∈ signL rs w 46, lvl (DT rows) (n + 3) "sees" [roomD rs, cellD p, cellD q] = some (.bl (seesB rs w p q)) := fun q hq => sees_ev n h p q hp (h.in6 hq)
  have sl := h.cells_len 46
  rw [v_seen_from]
  generalize lvl (DT rows) (n + 3) = F at *
  generalize signL rs w 46 = C at *
  have L1 : lcAll (lcOne (gN 2) (cTr (cFn "sees" (cCons (cV 0) (cCons (cV 1) (cCons (cV 2) (cNil)))))) (cV 2) F [some (roomD rs), some (cellD p), none]) (C.map cellD) = some ((C.filter fun q => seesB rs w p q).map cellD) := lc_filter fun q hq => by
    simp only [s_sSeq, s_sNil, s_sRet, s_sRetT, s_sIf, s_sAsg, s_sPar, s_sSetM, s_cND, s_cC, s_cB, s_cU, s_cTup, s_cLst, s_cNil, s_cCons, s_cCall, s_cFn, s_cIx, s_cAnd, s_cOr, s_cNot, s_cIf, s_cTr, s_cBT, s_cAndT, s_cOrT, s_cNotT, s_cCh, s_cChT, s_cSl, s_sFor, s_cWalk, s_cLc, s_lcOne, s_cTrue, s_sApp, s_gN, s_gT, s_gsNil, s_gsCons, s_cV0, s_cVs, s_finR, s_finN, s_boolD, s_truB, s_setAll0, s_setAll1, s_op1, s_op2, s_abs, s_addI, s_subI, eqI, neI, ltI, gtI, leI, geI, mkTup1, mkTup2, mkTup3, idx_t0, idx_t1, idx_t2, obS, omS, List.set_cons_zero, List.set_cons_succ, s_cNone, s_cPart, s_intD, s_cRng1, s_walkL, s_walkT, s_lenT, s_lenL, s_lenS, s_slT, s_slL, if_true, if_false, decide_true, decide_false, Bool.not_true, Bool.not_false, Bool.and_true, Bool.and_false, Bool.true_and, Bool.false_and, Bool.false_eq_true, decide_eq_true_eq, s_cEnum, s_sPut, s_revL, s_revT, s_listL, s_listT, s_tupleL, s_tupleT, s_isDicLst, s_isDicTup, s_isDicInt, wipeE_nil, wipeE_cons, fb q hq]
    cases seesB rs w p q <;> rfl
  have L2 : mkLst ((C.filter fun q => seesB rs w p q).map cellD) = some (cellsD (C.filter fun q => seesB rs w p q)) := mkLst_ev (by rw [List.length_map]; have := List.length_filter_le (fun q => seesB rs w p q) C; omega)
  have wl : walkL (cellsD C) = some (C.map cellD) := rfl
  unfold b_seen_from
  simp only [s_sSeq, s_sNil, s_sRet, s_sRetT, s_sIf, s_sAsg, s_sPar, s_sSetM, s_cND, s_cC, s_cB, s_cU, s_cTup, s_cLst, s_cNil, s_cCons, s_cCall, s_cFn, s_cIx, s_cAnd, s_cOr, s_cNot, s_cIf, s_cTr, s_cBT, s_cAndT, s_cOrT, s_cNotT, s_cCh, s_cChT, s_cSl, s_sFor, s_cWalk, s_cLc, s_lcOne, s_cTrue, s_sApp, s_gN, s_gT, s_gsNil, s_gsCons, s_cV0, s_cVs, s_finR, s_finN, s_boolD, s_truB, s_setAll0, s_setAll1, s_op1, s_op2, s_abs, s_addI, s_subI, eqI, neI, ltI, gtI, leI, geI, mkTup1, mkTup2, mkTup3, idx_t0, idx_t1, idx_t2, obS, omS, List.set_cons_zero, List.set_cons_succ, s_cNone, s_cPart, s_intD, s_cRng1, s_walkL, s_walkT, s_lenT, s_lenL, s_lenS, s_slT, s_slL, if_true, if_false, decide_true, decide_false, Bool.not_true, Bool.not_false, Bool.and_true, Bool.and_false, Bool.true_and, Bool.false_and, Bool.false_eq_true, decide_eq_true_eq, s_cEnum, s_sPut, s_revL, s_revT, s_listL, s_listT, s_tupleL, s_tupleT, s_isDicLst, s_isDicTup, s_isDicInt, wipeE_nil, wipeE_cons, fs, wl, L1, L2]
end L
namespace RE
theorem alk_cell (p q : Nat × Nat) : alk (cellD p) (cellD q) = true := rfl
theorem sort_cells (l : List (Nat × Nat)) (hl : l.length ≤ 100000) : sortedD (.lst (l.map cellD)) = some (.lst (sortL (l.map cellD))) := by
  have h : sortOk (l.map cellD) = true := by
    unfold sortOk
    have h1 : (l.map cellD).all (pd 60) = true := by
      rw [List.all_eq_true]; intro x hx
      obtain ⟨p, _, rfl⟩ := List.mem_map.mp hx
      exact pd_cell 59 p
    have h2 : ((l.map cellD).all fun d => (l.map cellD).all fun e => alk d e) = true := by
      rw [List.all_eq_true]; intro x hx
      obtain ⟨p, _, rfl⟩ := List.mem_map.mp hx
      rw [List.all_eq_true]; intro y hy
      obtain ⟨q, _, rfl⟩ := List.mem_map.mp hy
      exact alk_cell p q
    have h3 : (l.map cellD).all isTup1 = true := by
      rw [List.all_eq_true]; intro x hx
      obtain ⟨p, _, rfl⟩ := List.mem_map.mp hx
      rfl
    rw [h1, h2, h3, fits_of (by rw [List.length_map]; exact hl)]; rfl
  have : sortedD (.lst (l.map cellD)) = if sortOk (l.map cellD) then some (.lst (sortL (l.map cellD))) else none := rfl
  rw [this, h, if_pos rfl]
theorem sortL_perm (l : List D) : (sortL l).Perm l := List.mergeSort_perm _ _
def ltC (p q : Nat × Nat) : Prop := p.1 < q.1 ∨ (p.1 = q.1 ∧ p.2 < q.2)
instance (p q : Nat × Nat) : Decidable (ltC p q) := by unfold ltC; infer_instance
theorem ltv_cell (p q : Nat × Nat) : ltv (cellD p) (cellD q) = decide (ltC p q) := by
  unfold ltv
  have e : ∀ r : Nat × Nat, toP (cellD r) = .tuple [.int (r.1 : Int), .int (r.2 : Int)] := fun r => by simp [cellD, natD, toP, toPs]
  rw [e, e, PySem.W.dataLt_ii]
  unfold ltC
  exact decide_eq_decide.mpr (by omega)
theorem le_eq (d e : D) : PySem.W.dataLe false toP d e = !ltv e d := rfl
theorem sortL_sorted (l : List D) : (sortL l).Pairwise fun d e => ltv e d = false := by
  have t : PySem.W.TotalLe (PySem.W.dataLe false toP) := PySem.W.sortLe_total _ _ _
  have h := PySem.W.sort_pairwise t l
  refine List.Pairwise.imp (fun {d e} z => ?_) h
  have z : (!ltv e d) = true := z
  rw [Bool.not_eq_true'] at z
  exact z
theorem sortL_id {l : List D} (h : l.Pairwise fun d e => ltv e d = false) : sortL l = l := by
  unfold sortL
  refine List.mergeSort_of_pairwise (h.imp fun {d e} z => ?_)
  show (!ltv e d) = true
  rw [z]; rfl
theorem map_cell_inj : ∀ {l m : List (Nat × Nat)}, l.map cellD = m.map cellD → l = m
  | [], [], _ => rfl
  | [], _ :: _, h => by cases h
  | _ :: _, [], h => by cases h
  | p :: l, q :: m, h => by
    rw [List.map_cons, List.map_cons] at h
    injection h with h1 h2
    have : p = q := by
      unfold cellD natD at h1
      injection h1 with h1
      injection h1 with h3 h4
      injection h4 with h4 _
      injection h3 with h3
      injection h4 with h4
      exact Prod.ext (by omega) (by omega)
    rw [this, map_cell_inj h2]
theorem sign_rises (rs : List Str) (w c : Nat) : (signL rs w c).Pairwise ltC := by
  unfold signL
  rw [List.pairwise_flatMap]
  refine ⟨fun x _ => ?_, ?_⟩
  · rw [List.pairwise_map]
    refine List.Pairwise.filter _ (List.pairwise_lt_range.imp fun h => .inr ⟨rfl, h⟩)
  · refine List.pairwise_lt_range.imp fun {x y} h => ?_
    intro p hp q hq
    obtain ⟨_, _, rfl⟩ := List.mem_map.mp hp
    obtain ⟨_, _, rfl⟩ := List.mem_map.mp hq
    exact .inl h
end RE
end
section
open PySem PySem.Spec PyProof.Rows L2 RE
namespace RE
/-! rooms mirrored -/
def mirC (w : Nat) (p : Nat × Nat) : Nat × Nat := (w - 1 - p.1, p.2)
def mirR (rs : List Str) : List Str := rs.map revS
theorem chs_rev (s : Str) : chs (revS s) = (chs s).reverse := by simp [chs, revS]
theorem mir_mir {w : Nat} {p : Nat × Nat} (h : p.1 < w) : mirC w (mirC w p) = p := by
  unfold mirC
  exact Prod.ext (by show w - 1 - (w - 1 - p.1) = p.1; omega) rfl
theorem mir_lt {w : Nat} {p : Nat × Nat} (h : p.1 < w) : (mirC w p).1 < w := by
  show w - 1 - p.1 < w
  omega
theorem mir_ok {rs : List Str} {w : Nat} (h : RoomOk rs w) : RoomOk (mirR rs) w := by
  refine ⟨by unfold mirR; rw [List.length_map]; exact h.h1, by unfold mirR; rw [List.length_map]; exact h.h6, h.w1, h.w6, fun s hs => ?_, fun s hs c hc => ?_⟩
  · obtain ⟨t, ht, rfl⟩ := List.mem_map.mp hs
    rw [chs_rev, List.length_reverse]
    exact h.len t ht
  · obtain ⟨t, ht, rfl⟩ := List.mem_map.mp hs
    rw [chs_rev, List.mem_reverse] at hc
    exact h.ch t ht c hc
theorem rev_rev (s : Str) : revS (revS s) = s := by
  unfold revS
  simp
theorem mirR_mirR (rs : List Str) : mirR (mirR rs) = rs := by
  unfold mirR
  rw [List.map_map]
  conv => rhs; rw [← List.map_id rs]
  exact List.map_congr_left fun s _ => rev_rev s
theorem at_mir {rs : List Str} {w : Nat} (h : RoomOk rs w) {x y : Nat} (hx : x < w) (hy : y < rs.length) : at_ (mirR rs) x y = at_ rs (w - 1 - x) y := by
  unfold at_ mirR
  have e1 : (rs.map revS).getD y (chS []) = revS rs[y] := by simp [List.getD, hy]
  have e2 : rs.getD y (chS []) = rs[y] := by simp [List.getD, hy]
  have hl := h.len rs[y] (List.getElem_mem hy)
  rw [e1, e2, chs_rev]
  have h1 : x < (chs rs[y]).length := by omega
  rw [List.getD_eq_getElem?_getD, List.getD_eq_getElem?_getD, List.getElem?_reverse h1, hl]
theorem bar_mir (w : Nat) {p q c : Nat × Nat} (hp : p.1 < w) (hq : q.1 < w) (hc : c.1 < w) : barI (oddP (mirC w p)) (oddP (mirC w q)) (evP (mirC w c)) = barI (oddP p) (oddP q) (evP c) := by
  rw [Bool.eq_iff_iff, bar_iff, bar_iff]
  unfold oddP evP mirC
  simp only
  have e1 : ((w - 1 - p.1 : Nat) : Int) = (w : Int) - 1 - p.1 := by omega
  have e2 : ((w - 1 - q.1 : Nat) : Int) = (w : Int) - 1 - q.1 := by omega
  have e3 : ((w - 1 - c.1 : Nat) : Int) = (w : Int) - 1 - c.1 := by omega
  rw [e1, e2, e3]
  generalize (p.1 : Int) = px
  generalize (p.2 : Int) = py
  generalize (q.1 : Int) = qx
  generalize (q.2 : Int) = qy
  generalize (c.1 : Int) = cx
  generalize (c.2 : Int) = cy
  generalize (w : Int) = W
  have key : (2 * (W - 1 - qx) + 1 - (2 * (W - 1 - px) + 1)) * (2 * cy - (2 * py + 1)) - (2 * qy + 1 - (2 * py + 1)) * (2 * (W - 1 - cx) - (2 * (W - 1 - px) + 1)) = 2 * (2 * qy + 1 - (2 * py + 1)) - ((2 * qx + 1 - (2 * px + 1)) * (2 * cy - (2 * py + 1)) - (2 * qy + 1 - (2 * py + 1)) * (2 * cx - (2 * px + 1))) := by grind
  rw [key]
  generalize (2 * qx + 1 - (2 * px + 1)) * (2 * cy - (2 * py + 1)) - (2 * qy + 1 - (2 * py + 1)) * (2 * cx - (2 * px + 1)) = v
  constructor
  · rintro ⟨h1, h2, c, rfl, h3, h4⟩
    exact ⟨by omega, by omega, _, rfl, by omega, by omega⟩
  · rintro ⟨h1, h2, c, rfl, h3, h4⟩
    exact ⟨by omega, by omega, _, rfl, by omega, by omega⟩
theorem mir_inj {w : Nat} {p q : Nat × Nat} (hp : p.1 < w) (hq : q.1 < w) : mirC w p = mirC w q ↔ p = q := by
  constructor
  · intro h
    rw [← mir_mir hp, ← mir_mir hq, h]
  · intro h; rw [h]
theorem sign_mir {rs : List Str} {w : Nat} (h : RoomOk rs w) {c : Nat} {p : Nat × Nat} (hp : p ∈ signL rs w c) : mirC w p ∈ signL (mirR rs) w c := by
  obtain ⟨h1, h2, h3⟩ := mem_sign.mp hp
  refine mem_sign.mpr ⟨mir_lt h1, by unfold mirR; rw [List.length_map]; exact h2, ?_⟩
  show at_ (mirR rs) (w - 1 - p.1) p.2 = c
  rw [at_mir h (by omega) h2, show w - 1 - (w - 1 - p.1) = p.1 by omega]
  exact h3
theorem sees_mir {rs : List Str} {w : Nat} (h : RoomOk rs w) {p q : Nat × Nat} (hp : p.1 < w) (hq : q.1 < w) : seesB (mirR rs) w (mirC w p) (mirC w q) = seesB rs w p q := by
  unfold seesB
  have e1 : decide (mirC w p = mirC w q) = decide (p = q) := decide_eq_decide.mpr (mir_inj hp hq)
  have e2 : ((signL (mirR rs) w 35).any fun c => barI (oddP (mirC w p)) (oddP (mirC w q)) (evP c)) = ((signL rs w 35).any fun c => barI (oddP p) (oddP q) (evP c)) := by
    rw [Bool.eq_iff_iff, List.any_eq_true, List.any_eq_true]
    constructor
    · rintro ⟨c, hc, hb⟩
      have hcw := (mem_sign.mp hc).1
      have hm := sign_mir (mir_ok h) hc
      rw [mirR_mirR] at hm
      refine ⟨mirC w c, hm, ?_⟩
      rw [← bar_mir w hp hq (mir_lt hcw), mir_mir hcw]
      exact hb
    · rintro ⟨c, hc, hb⟩
      have hcw := (mem_sign.mp hc).1
      refine ⟨mirC w c, sign_mir h hc, ?_⟩
      rw [bar_mir w hp hq hcw]
      exact hb
  rw [e1, e2]
end RE
namespace RE
/-! pairs of cells, the one sees the other one -/
abbrev Cel := Nat × Nat
def pairPD (a : Cel × Cel) : D := .tup [cellD a.1, cellD a.2]
def pairsL (rs : List Str) (w : Nat) : List (Cel × Cel) := (signL rs w 46).flatMap fun p => ((signL rs w 46).filter fun q => seesB rs w p q).map fun q => (p, q)
theorem mem_pairs {rs : List Str} {w : Nat} {a : Cel × Cel} : a ∈ pairsL rs w ↔ a.1 ∈ signL rs w 46 ∧ a.2 ∈ signL rs w 46 ∧ seesB rs w a.1 a.2 = true := by
  unfold pairsL
  rw [List.mem_flatMap]
  constructor
  · rintro ⟨p, hp, h⟩
    obtain ⟨q, hq, rfl⟩ := List.mem_map.mp h
    obtain ⟨h1, h2⟩ := List.mem_filter.mp hq
    exact ⟨hp, h1, h2⟩
  · rintro ⟨h1, h2, h3⟩
    exact ⟨a.1, h1, List.mem_map.mpr ⟨a.2, List.mem_filter.mpr ⟨h2, h3⟩, rfl⟩⟩
def ltQ (a b : Cel × Cel) : Prop := ltC a.1 b.1 ∨ (a.1 = b.1 ∧ ltC a.2 b.2)
instance (a b : Cel × Cel) : Decidable (ltQ a b) := by unfold ltQ; infer_instance
theorem ltC_irr (p : Cel) : ¬ ltC p p := by unfold ltC; omega
theorem ltC_tri (p q : Cel) : ltC p q ∨ p = q ∨ ltC q p := by
  unfold ltC
  rcases Nat.lt_trichotomy p.1 q.1 with h | h | h
  · omega
  · rcases Nat.lt_trichotomy p.2 q.2 with h2 | h2 | h2
    · omega
    · exact .inr (.inl (Prod.ext h h2))
    · omega
  · omega
theorem ltC_asym {p q : Cel} (h : ltC p q) : ¬ ltC q p := by unfold ltC at *; omega
theorem ltQ_irr (a : Cel × Cel) : ¬ ltQ a a := by
  unfold ltQ
  rintro (h | ⟨_, h⟩)
  · exact ltC_irr _ h
  · exact ltC_irr _ h
theorem ltQ_tri (a b : Cel × Cel) : ltQ a b ∨ a = b ∨ ltQ b a := by
  unfold ltQ
  rcases ltC_tri a.1 b.1 with h | h | h
  · exact .inl (.inl h)
  · rcases ltC_tri a.2 b.2 with h2 | h2 | h2
    · exact .inl (.inr ⟨h, h2⟩)
    · exact .inr (.inl (Prod.ext h h2))
    · exact .inr (.inr (.inr ⟨h.symm, h2⟩))
  · exact .inr (.inr (.inl h))
theorem ltQ_asym {a b : Cel × Cel} (h : ltQ a b) : ¬ ltQ b a := by
  unfold ltQ at *
  rintro (g | ⟨g1, g2⟩)
  · rcases h with h | ⟨h1, _⟩
    · exact ltC_asym h g
    · rw [h1] at g; exact ltC_irr _ g
  · rcases h with h | ⟨_, h2⟩
    · rw [g1] at h; exact ltC_irr _ h
    · exact ltC_asym h2 g2
theorem pairs_rise (rs : List Str) (w : Nat) : (pairsL rs w).Pairwise ltQ := by
  unfold pairsL
  rw [List.pairwise_flatMap]
  refine ⟨fun p _ => ?_, (sign_rises rs w 46).imp fun {p q} h => ?_⟩
  · rw [List.pairwise_map]
    exact List.Pairwise.filter _ ((sign_rises rs w 46).imp fun h => .inr ⟨rfl, h⟩)
  · intro a ha b hb
    obtain ⟨_, _, rfl⟩ := List.mem_map.mp ha
    obtain ⟨_, _, rfl⟩ := List.mem_map.mp hb
    exact .inl h
theorem rise_nodup {l : List (Cel × Cel)} (h : l.Pairwise ltQ) : l.Nodup := by
  unfold List.Nodup
  refine h.imp fun {a b} z => ?_
  intro e
  subst e
  exact ltQ_irr a z
theorem cells_nodup (rs : List Str) (w c : Nat) : (signL rs w c).Nodup := by
  unfold List.Nodup
  refine (sign_rises rs w c).imp fun {a b} z => ?_
  intro e
  subst e
  exact ltC_irr a z
theorem eqv_pair (a b : Cel × Cel) : eqv (pairPD a) (pairPD b) = decide (a = b) := by
  unfold pairPD
  rw [eqv_tupC, eqvL_cons, eqvL_nil, Bool.and_true, eqv_cell, eqv_cell, ← Bool.decide_and]
  exact decide_eq_decide.mpr ⟨fun h => Prod.ext h.1 h.2, fun h => by rw [h]; exact ⟨rfl, rfl⟩⟩
theorem ltv_pair (a b : Cel × Cel) : ltv (pairPD a) (pairPD b) = decide (ltQ a b) := by
  have e : ∀ r : Cel × Cel, toP (pairPD r) = .tuple [toP (cellD r.1), toP (cellD r.2)] := fun r => by simp [pairPD, toP, toPs]
  have l1 := ltv_cell a.1 b.1
  have l2 := ltv_cell a.2 b.2
  have e1 := eqv_cell a.1 b.1
  have e2 := eqv_cell a.2 b.2
  unfold ltv eqv at *
  rw [e, e, PySem.W.dataLt_pair (alk_cell _ _) (alk_cell _ _), e1, e2, l1, l2]
  by_cases h1 : a.1 = b.1
  · rw [decide_eq_true h1, if_pos rfl]
    have n1 : ¬ ltC a.1 b.1 := by rw [h1]; exact ltC_irr _
    by_cases h2 : a.2 = b.2
    · rw [decide_eq_true h2, if_pos rfl]
      symm
      rw [decide_eq_false_iff_not]
      rintro (h | ⟨_, h⟩)
      · exact n1 h
      · rw [h2] at h; exact ltC_irr _ h
    · rw [decide_eq_false h2, if_neg (by simp)]
      exact decide_eq_decide.mpr ⟨fun h => .inr ⟨h1, h⟩, fun h => h.elim (fun z => absurd z n1) fun z => z.2⟩
  · rw [decide_eq_false h1, if_neg (by simp)]
    exact decide_eq_decide.mpr ⟨fun h => .inl h, fun h => h.elim (fun z => z) fun z => absurd z.1 h1⟩
theorem pair_inj {a b : Cel × Cel} (h : pairPD a = pairPD b) : a = b := by
  have := eqv_pair a b
  rw [h] at this
  have p : pd 3 (pairPD b) = true := by
    unfold pairPD
    rw [pd_tup 2]
    simp [pd_cell]
  rw [eqv_self 3 _ p] at this
  exact of_decide_eq_true this.symm
theorem pd_pair (n : Nat) (a : Cel × Cel) : pd (n + 2) (pairPD a) = true := by
  unfold pairPD
  rw [pd_tup (n + 1)]
  simp [pd_cell]
/-- the pairs in order, whichever way they are told -/
theorem sort_pairs {X Y : List (Cel × Cel)} (hl : X.length ≤ 100000) (hX : X.Nodup) (hm : ∀ a, a ∈ X ↔ a ∈ Y) (hY : Y.Pairwise ltQ) : sortedD (.lst (X.map pairPD)) = some (.lst (Y.map pairPD)) := by
  have h : sortOk (X.map pairPD) = true := by
    unfold sortOk
    have h1 : (X.map pairPD).all (pd 60) = true := by
      rw [List.all_eq_true]; intro x hx
      obtain ⟨p, _, rfl⟩ := List.mem_map.mp hx
      exact pd_pair 58 p
    have h2 : ((X.map pairPD).all fun d => (X.map pairPD).all fun e => alk d e) = true := by
      rw [List.all_eq_true]; intro x hx
      obtain ⟨p, _, rfl⟩ := List.mem_map.mp hx
      rw [List.all_eq_true]; intro y hy
      obtain ⟨q, _, rfl⟩ := List.mem_map.mp hy
      rfl
    have h3 : (X.map pairPD).all isTup1 = true := by
      rw [List.all_eq_true]; intro x hx
      obtain ⟨p, _, rfl⟩ := List.mem_map.mp hx
      rfl
    rw [h1, h2, h3, fits_of (by rw [List.length_map]; exact hl)]; rfl
  have e : sortedD (.lst (X.map pairPD)) = if sortOk (X.map pairPD) then some (.lst (sortL (X.map pairPD))) else none := rfl
  rw [e, h, if_pos rfl]
  congr 2
  have hp := sortL_perm (X.map pairPD)
  have hXY : X.Perm Y := (List.perm_ext_iff_of_nodup hX (rise_nodup hY)).mpr hm
  refine List.Perm.eq_of_pairwise (le := fun d e => ltv e d = false) (fun a b ha hb h1 h2 => ?_) (sortL_sorted _) ?_ (hp.trans (hXY.map _))
  · obtain ⟨x, _, rfl⟩ := List.mem_map.mp (hp.mem_iff.mp ha)
    obtain ⟨y, _, rfl⟩ := List.mem_map.mp hb
    rw [ltv_pair, decide_eq_false_iff_not] at h1 h2
    rcases ltQ_tri x y with z | z | z
    · exact absurd z h2
    · rw [z]
    · exact absurd z h1
  · rw [List.pairwise_map]
    refine hY.imp fun {a b} z => ?_
    rw [ltv_pair, decide_eq_false_iff_not]
    exact ltQ_asym z
theorem mem_pairD (a : Cel × Cel) (l : List (Cel × Cel)) : notInD (pairPD a) (.lst (l.map pairPD)) = some (.bl !decide (a ∈ l)) := by
  have e : inB (pairPD a) (.lst (l.map pairPD)) = if pd 64 (pairPD a) && (l.map pairPD).all (pd 64) then some (memD (pairPD a) (l.map pairPD)) else none := rfl
  have h1 : (l.map pairPD).all (pd 64) = true := by
    rw [List.all_eq_true]; intro x hx
    obtain ⟨p, _, rfl⟩ := List.mem_map.mp hx
    exact pd_pair 62 p
  unfold notInD
  rw [e, pd_pair 62, h1, if_pos (show (true && true) = true from rfl), omS]
  congr 2
  unfold memD
  rw [List.any_map, Bool.eq_iff_iff, Bool.not_eq_true', Bool.not_eq_true']
  constructor
  · intro h
    rw [decide_eq_false_iff_not]
    intro hm
    rw [List.any_eq_false] at h
    refine h a hm ?_
    show eqv (pairPD a) (pairPD a) = true
    rw [eqv_pair]; exact decide_eq_true rfl
  · intro h
    rw [decide_eq_false_iff_not] at h
    rw [List.any_eq_false]
    intro b hb z
    have z : eqv (pairPD b) (pairPD a) = true := z
    rw [eqv_pair, decide_eq_true_eq] at z
    exact h (z ▸ hb)
/-! who is seen sees -/
theorem bar_sym (a b l : Int × Int) : barI a b l = barI b a l := by
  rw [Bool.eq_iff_iff, bar_iff, bar_iff]
  have key : (a.1 - b.1) * (l.2 - b.2) - (a.2 - b.2) * (l.1 - b.1) = - ((b.1 - a.1) * (l.2 - a.2) - (b.2 - a.2) * (l.1 - a.1)) := by grind
  rw [key]
  generalize (b.1 - a.1) * (l.2 - a.2) - (b.2 - a.2) * (l.1 - a.1) = v
  constructor
  · rintro ⟨h1, h2, c, rfl, h3, h4⟩
    exact ⟨by omega, by omega, _, rfl, by omega, by omega⟩
  · rintro ⟨h1, h2, c, rfl, h3, h4⟩
    exact ⟨by omega, by omega, _, rfl, by omega, by omega⟩
theorem sees_sym (rs : List Str) (w : Nat) (p q : Cel) : seesB rs w p q = seesB rs w q p := by
  unfold seesB
  have e1 : decide (p = q) = decide (q = p) := decide_eq_decide.mpr eq_comm
  rw [e1]
  congr 2
  exact congrArg (fun f => (signL rs w 35).any f) (funext fun c => bar_sym _ _ _)
def swQ (a : Cel × Cel) : Cel × Cel := (a.2, a.1)
theorem map_nodup {α β : Type} {f : α → β} {l : List α} (h : l.Nodup) (hf : ∀ a b, a ∈ l → b ∈ l → f a = f b → a = b) : (l.map f).Nodup := by
  unfold List.Nodup at *
  rw [List.pairwise_map]
  exact h.imp_of_mem fun {a b} ha hb hne e => hne (hf a b ha hb e)
theorem swap_pairs (rs : List Str) (w : Nat) (hl : (pairsL rs w).length ≤ 100000) : sortedD (.lst (((pairsL rs w).map swQ).map pairPD)) = some (.lst ((pairsL rs w).map pairPD)) := by
  refine sort_pairs (by rw [List.length_map]; exact hl) (map_nodup (rise_nodup (pairs_rise rs w)) fun a b _ _ e => ?_) (fun a => ?_) (pairs_rise rs w)
  · unfold swQ at e
    exact Prod.ext (congrArg Prod.snd e) (congrArg Prod.fst e)
  · rw [List.mem_map]
    constructor
    · rintro ⟨b, hb, rfl⟩
      obtain ⟨h1, h2, h3⟩ := mem_pairs.mp hb
      exact mem_pairs.mpr ⟨h2, h1, by show seesB rs w b.2 b.1 = true; rw [sees_sym]; exact h3⟩
    · intro h
      obtain ⟨h1, h2, h3⟩ := mem_pairs.mp h
      exact ⟨swQ a, mem_pairs.mpr ⟨h2, h1, by show seesB rs w a.2 a.1 = true; rw [sees_sym]; exact h3⟩, rfl⟩
/-- mirrored -/
def mirQ (w : Nat) (a : Cel × Cel) : Cel × Cel := (mirC w a.1, mirC w a.2)
theorem sign_lt {rs : List Str} {w c : Nat} {p : Cel} (h : p ∈ signL rs w c) : p.1 < w := (mem_sign.mp h).1
theorem mir_pairs {rs : List Str} {w : Nat} (hr : RoomOk rs w) (hl : (pairsL rs w).length ≤ 100000) : sortedD (.lst (((pairsL rs w).map (mirQ w)).map pairPD)) = some (.lst ((pairsL (mirR rs) w).map pairPD)) := by
  refine sort_pairs (by rw [List.length_map]; exact hl) (map_nodup (rise_nodup (pairs_rise rs w)) fun a b ha hb e => ?_) (fun a => ?_) (pairs_rise _ w)
  · obtain ⟨a1, a2, _⟩ := mem_pairs.mp ha
    obtain ⟨b1, b2, _⟩ := mem_pairs.mp hb
    unfold mirQ at e
    exact Prod.ext ((mir_inj (sign_lt a1) (sign_lt b1)).mp (congrArg Prod.fst e)) ((mir_inj (sign_lt a2) (sign_lt b2)).mp (congrArg Prod.snd e))
  · rw [List.mem_map]
    constructor
    · rintro ⟨b, hb, rfl⟩
      obtain ⟨h1, h2, h3⟩ := mem_pairs.mp hb
      exact mem_pairs.mpr ⟨sign_mir hr h1, sign_mir hr h2, by show seesB (mirR rs) w (mirC w b.1) (mirC w b.2) = true; rw [sees_mir hr (sign_lt h1) (sign_lt h2)]; exact h3⟩
    · intro h
      obtain ⟨h1, h2, h3⟩ := mem_pairs.mp h
      have m1 := sign_mir (mir_ok hr) h1
      have m2 := sign_mir (mir_ok hr) h2
      rw [mirR_mirR] at m1 m2
      refine ⟨mirQ w a, mem_pairs.mpr ⟨m1, m2, ?_⟩, ?_⟩
      · have := sees_mir (mir_ok hr) (sign_lt h1) (sign_lt h2)
        rw [mirR_mirR] at this
        show seesB rs w (mirC w a.1) (mirC w a.2) = true
        rw [this]; exact h3
      · unfold mirQ
        exact Prod.ext (mir_mir (sign_lt h1)) (mir_mir (sign_lt h2))
/-! turned over -/
def ovR (rs : List Str) (w : Nat) : List Str := (List.range w).map fun x => chS ((List.range rs.length).map fun y => at_ rs x y)
def swC (p : Cel) : Cel := (p.2, p.1)
theorem at_ok {rs : List Str} {w : Nat} (h : RoomOk rs w) {x y : Nat} (hx : x < w) (hy : y < rs.length) : at_ rs x y = 46 ∨ at_ rs x y = 35 := by
  have hl := h.len rs[y] (List.getElem_mem hy)
  have e : at_ rs x y = (chs rs[y])[x]'(by omega) := by
    unfold at_
    have e2 : rs.getD y (chS []) = rs[y] := by simp [List.getD, hy]
    rw [e2]
    simp [List.getD, show x < (chs rs[y]).length by omega]
  rw [e]
  exact h.ch rs[y] (List.getElem_mem hy) _ (List.getElem_mem _)
theorem ov_ok {rs : List Str} {w : Nat} (h : RoomOk rs w) : RoomOk (ovR rs w) rs.length := by
  refine ⟨by unfold ovR; rw [List.length_map, List.length_range]; exact h.w1, by unfold ovR; rw [List.length_map, List.length_range]; exact h.w6, h.h1, h.h6, fun s hs => ?_, fun s hs c hc => ?_⟩
  · obtain ⟨x, _, rfl⟩ := List.mem_map.mp hs
    rw [chs_chS, List.length_map, List.length_range]
  · obtain ⟨x, hx, rfl⟩ := List.mem_map.mp hs
    rw [chs_chS] at hc
    obtain ⟨y, hy, rfl⟩ := List.mem_map.mp hc
    exact at_ok h (List.mem_range.mp hx) (List.mem_range.mp hy)
theorem at_ov {rs : List Str} {w : Nat} {x y : Nat} (hx : x < w) (hy : y < rs.length) : at_ (ovR rs w) y x = at_ rs x y := by
  conv => lhs; unfold at_ ovR
  have e1 : ((List.range w).map fun x => chS ((List.range rs.length).map fun y => at_ rs x y)).getD x (chS []) = chS ((List.range rs.length).map fun y => at_ rs x y) := by simp [List.getD, hx]
  rw [e1, chs_chS]
  simp [List.getD, hy]
theorem sign_ov {rs : List Str} {w : Nat} {c : Nat} {p : Cel} : swC p ∈ signL (ovR rs w) rs.length c ↔ p ∈ signL rs w c := by
  have hl : (ovR rs w).length = w := by unfold ovR; rw [List.length_map, List.length_range]
  rw [mem_sign, mem_sign, hl]
  unfold swC
  constructor
  · rintro ⟨h1, h2, h3⟩
    exact ⟨h2, h1, by rw [← at_ov h2 h1]; exact h3⟩
  · rintro ⟨h1, h2, h3⟩
    exact ⟨h2, h1, by rw [at_ov h1 h2]; exact h3⟩
theorem bar_ov (p q c : Cel) : barI (oddP (swC p)) (oddP (swC q)) (evP (swC c)) = barI (oddP p) (oddP q) (evP c) := by
  rw [Bool.eq_iff_iff, bar_iff, bar_iff]
  unfold oddP evP swC
  simp only
  generalize (p.1 : Int) = px
  generalize (p.2 : Int) = py
  generalize (q.1 : Int) = qx
  generalize (q.2 : Int) = qy
  generalize (c.1 : Int) = cx
  generalize (c.2 : Int) = cy
  have key : (2 * qy + 1 - (2 * py + 1)) * (2 * cx - (2 * px + 1)) - (2 * qx + 1 - (2 * px + 1)) * (2 * cy - (2 * py + 1)) = - ((2 * qx + 1 - (2 * px + 1)) * (2 * cy - (2 * py + 1)) - (2 * qy + 1 - (2 * py + 1)) * (2 * cx - (2 * px + 1))) := by grind
  rw [key]
  generalize (2 * qx + 1 - (2 * px + 1)) * (2 * cy - (2 * py + 1)) - (2 * qy + 1 - (2 * py + 1)) * (2 * cx - (2 * px + 1)) = v
  constructor
  · rintro ⟨h1, h2, c, rfl, h3, h4⟩
    exact ⟨by omega, by omega, _, rfl, by omega, by omega⟩
  · rintro ⟨h1, h2, c, rfl, h3, h4⟩
    exact ⟨by omega, by omega, _, rfl, by omega, by omega⟩
theorem sw_sw (p : Cel) : swC (swC p) = p := rfl
theorem sees_ov (rs : List Str) (w : Nat) (p q : Cel) : seesB (ovR rs w) rs.length (swC p) (swC q) = seesB rs w p q := by
  unfold seesB
  have e1 : decide (swC p = swC q) = decide (p = q) := decide_eq_decide.mpr ⟨fun h => by rw [← sw_sw p, h, sw_sw], fun h => by rw [h]⟩
  have e2 : ((signL (ovR rs w) rs.length 35).any fun c => barI (oddP (swC p)) (oddP (swC q)) (evP c)) = ((signL rs w 35).any fun c => barI (oddP p) (oddP q) (evP c)) := by
    rw [Bool.eq_iff_iff, List.any_eq_true, List.any_eq_true]
    constructor
    · rintro ⟨c, hc, hb⟩
      refine ⟨swC c, sign_ov.mp (by rw [sw_sw]; exact hc), ?_⟩
      rw [← bar_ov, sw_sw]; exact hb
    · rintro ⟨c, hc, hb⟩
      exact ⟨swC c, sign_ov.mpr hc, by rw [bar_ov]; exact hb⟩
  rw [e1, e2]
def ovQ (a : Cel × Cel) : Cel × Cel := (swC a.1, swC a.2)
theorem ov_pairs {rs : List Str} {w : Nat} (hl : (pairsL rs w).length ≤ 100000) : sortedD (.lst (((pairsL rs w).map ovQ).map pairPD)) = some (.lst ((pairsL (ovR rs w) rs.length).map pairPD)) := by
  refine sort_pairs (by rw [List.length_map]; exact hl) (map_nodup (rise_nodup (pairs_rise rs w)) fun a b _ _ e => ?_) (fun a => ?_) (pairs_rise _ _)
  · unfold ovQ at e
    have h1 := congrArg (fun z : Cel × Cel => swC z.1) e
    have h2 := congrArg (fun z : Cel × Cel => swC z.2) e
    exact Prod.ext h1 h2
  · rw [List.mem_map]
    constructor
    · rintro ⟨b, hb, rfl⟩
      obtain ⟨h1, h2, h3⟩ := mem_pairs.mp hb
      exact mem_pairs.mpr ⟨sign_ov.mpr h1, sign_ov.mpr h2, by show seesB (ovR rs w) rs.length (swC b.1) (swC b.2) = true; rw [sees_ov]; exact h3⟩
    · intro h
      obtain ⟨h1, h2, h3⟩ := mem_pairs.mp h
      refine ⟨ovQ a, mem_pairs.mpr ⟨sign_ov.mp (by exact h1), sign_ov.mp (by exact h2), ?_⟩, rfl⟩
      show seesB rs w (swC a.1) (swC a.2) = true
      rw [← sees_ov rs w (swC a.1) (swC a.2), sw_sw, sw_sw]; exact h3
/-! a cell opened, shut -/
def setR (rs : List Str) (c : Cel) (z : Nat) : List Str := rs.set c.2 (chS ((chs (rs.getD c.2 (chS []))).set c.1 z))
theorem set_ok {rs : List Str} {w : Nat} (h : RoomOk rs w) (c : Cel) {z : Nat} (hz : z = 46 ∨ z = 35) : RoomOk (setR rs c z) w := by
  by_cases hc : c.2 < rs.length
  · have e : rs.getD c.2 (chS []) = rs[c.2] := by simp [List.getD, hc]
    refine ⟨by unfold setR; rw [List.length_set]; exact h.h1, by unfold setR; rw [List.length_set]; exact h.h6, h.w1, h.w6, fun s hs => ?_, fun s hs x hx => ?_⟩
    · rcases List.mem_or_eq_of_mem_set hs with hs | rfl
      · exact h.len s hs
      · rw [chs_chS, List.length_set, e]
        exact h.len _ (List.getElem_mem hc)
    · rcases List.mem_or_eq_of_mem_set hs with hs | rfl
      · exact h.ch s hs x hx
      · rw [chs_chS, e] at hx
        rcases List.mem_or_eq_of_mem_set hx with hx | rfl
        · exact h.ch _ (List.getElem_mem hc) x hx
        · exact hz
  · have : setR rs c z = rs := by
      unfold setR
      exact List.set_eq_of_length_le (by omega)
    rw [this]; exact h
theorem at_set' {rs : List Str} {w : Nat} (h : RoomOk rs w) {c : Cel} (hcx : c.1 < w) (hcy : c.2 < rs.length) (z : Nat) {x y : Nat} (hx : x < w) (hy : y < rs.length) : at_ (setR rs c z) x y = if x = c.1 ∧ y = c.2 then z else at_ rs x y := by
  have ec : rs.getD c.2 (chS []) = rs[c.2] := by simp [List.getD, hcy]
  have ey : rs.getD y (chS []) = rs[y] := by simp [List.getD, hy]
  have hl := h.len rs[c.2] (List.getElem_mem hcy)
  unfold at_ setR
  rw [ec]
  by_cases e : y = c.2
  · subst e
    have e2 : (rs.set c.2 (chS ((chs rs[c.2]).set c.1 z))).getD c.2 (chS []) = chS ((chs rs[c.2]).set c.1 z) := by simp [List.getD, hcy]
    rw [e2, chs_chS, ey]
    by_cases e3 : x = c.1
    · subst e3
      rw [if_pos ⟨rfl, rfl⟩]
      simp [List.getD, show c.1 < (chs rs[c.2]).length by omega]
    · rw [if_neg (fun q => e3 q.1)]
      rw [List.getD_eq_getElem?_getD, List.getElem?_set_ne (Ne.symm e3), List.getD_eq_getElem?_getD]
  · rw [if_neg (fun q => e q.2)]
    have e2 : (rs.set c.2 (chS ((chs rs[c.2]).set c.1 z))).getD y (chS []) = rs[y] := by
      rw [List.getD_eq_getElem?_getD, List.getElem?_set_ne (Ne.symm e)]
      simp [hy]
    rw [e2, ey]
/-- fewer walls: none who is seen is lost -/
theorem pairs_sub {A B : List Str} {w : Nat} (hc : ∀ p ∈ signL A w 46, p ∈ signL B w 46) (hw : ∀ p ∈ signL B w 35, p ∈ signL A w 35) : ∀ a ∈ pairsL A w, a ∈ pairsL B w := by
  intro a ha
  obtain ⟨h1, h2, h3⟩ := mem_pairs.mp ha
  refine mem_pairs.mpr ⟨hc _ h1, hc _ h2, ?_⟩
  unfold seesB at *
  rw [Bool.and_eq_true] at h3 ⊢
  refine ⟨h3.1, ?_⟩
  have h4 := h3.2
  rw [Bool.not_eq_true', List.any_eq_false] at h4 ⊢
  exact fun c hc => h4 c (hw c hc)
theorem opened_sub {rs : List Str} {w : Nat} (h : RoomOk rs w) {c : Cel} (hcx : c.1 < w) (hcy : c.2 < rs.length) : ∀ a ∈ pairsL rs w, a ∈ pairsL (setR rs c 46) w := by
  have hl : (setR rs c 46).length = rs.length := by unfold setR; rw [List.length_set]
  refine pairs_sub (fun p hp => ?_) fun p hp => ?_
  · obtain ⟨h1, h2, h3⟩ := mem_sign.mp hp
    refine mem_sign.mpr ⟨h1, by rw [hl]; exact h2, ?_⟩
    rw [at_set' h hcx hcy 46 h1 h2]
    split
    · rfl
    · exact h3
  · obtain ⟨h1, h2, h3⟩ := mem_sign.mp hp
    rw [hl] at h2
    refine mem_sign.mpr ⟨h1, h2, ?_⟩
    rw [at_set' h hcx hcy 46 h1 h2] at h3
    split at h3
    · cases h3
    · exact h3
theorem shut_sub {rs : List Str} {w : Nat} (h : RoomOk rs w) {c : Cel} (hcx : c.1 < w) (hcy : c.2 < rs.length) : ∀ a ∈ pairsL (setR rs c 35) w, a ∈ pairsL rs w := by
  have hl : (setR rs c 35).length = rs.length := by unfold setR; rw [List.length_set]
  refine pairs_sub (fun p hp => ?_) fun p hp => ?_
  · obtain ⟨h1, h2, h3⟩ := mem_sign.mp hp
    rw [hl] at h2
    refine mem_sign.mpr ⟨h1, h2, ?_⟩
    rw [at_set' h hcx hcy 35 h1 h2] at h3
    split at h3
    · cases h3
    · exact h3
  · obtain ⟨h1, h2, h3⟩ := mem_sign.mp hp
    refine mem_sign.mpr ⟨h1, by rw [hl]; exact h2, ?_⟩
    rw [at_set' h hcx hcy 35 h1 h2]
    split
    · rfl
    · exact h3
/-! cells beside one another -/
theorem beside {rs : List Str} {w : Nat} {p q : Cel} (hp : p ∈ signL rs w 46) (hq : q ∈ signL rs w 46) (h : q = (p.1 + 1, p.2) ∨ q = (p.1, p.2 + 1)) : seesB rs w p q = true := by
  unfold seesB
  have ne : decide (p = q) = false := by
    rw [decide_eq_false_iff_not]
    intro e
    rcases h with rfl | rfl
    · have := congrArg Prod.fst e; simp at this
    · have := congrArg Prod.snd e; simp at this
  rw [ne]
  show (!List.any _ _) = true
  rw [Bool.not_eq_true', List.any_eq_false]
  intro c hc hb
  obtain ⟨_, _, c3⟩ := mem_sign.mp hc
  obtain ⟨_, _, p3⟩ := mem_sign.mp hp
  obtain ⟨_, _, q3⟩ := mem_sign.mp hq
  have cp : c ≠ p := fun e => by rw [e, p3] at c3; cases c3
  have cq : c ≠ q := fun e => by rw [e, q3] at c3; cases c3
  rw [bar_iff] at hb
  obtain ⟨h1, h2, _⟩ := hb
  unfold oddP evP at h1 h2
  simp only at h1 h2
  rcases h with rfl | rfl
  · simp only at h1 h2
    have e2 : c.2 = p.2 := by omega
    have e1 : c.1 = p.1 ∨ c.1 = p.1 + 1 := by omega
    rcases e1 with e1 | e1
    · exact cp (Prod.ext e1 e2)
    · exact cq (Prod.ext e1 e2)
  · simp only at h1 h2
    have e2 : c.1 = p.1 := by omega
    have e1 : c.2 = p.2 ∨ c.2 = p.2 + 1 := by omega
    rcases e1 with e1 | e1
    · exact cp (Prod.ext e2 e1)
    · exact cq (Prod.ext e2 e1)
/-! no walls -/
def openR (w h : Nat) : List Str := List.replicate h (chS (List.replicate w 46))
theorem open_ok {w h : Nat} (w1 : 1 ≤ w) (w6 : w ≤ 6) (h1 : 1 ≤ h) (h6 : h ≤ 6) : RoomOk (openR w h) w := by
  refine ⟨by unfold openR; rw [List.length_replicate]; exact h1, by unfold openR; rw [List.length_replicate]; exact h6, w1, w6, fun s hs => ?_, fun s hs c hc => ?_⟩
  · rw [List.eq_of_mem_replicate hs, chs_chS, List.length_replicate]
  · rw [List.eq_of_mem_replicate hs, chs_chS] at hc
    exact .inl (List.eq_of_mem_replicate hc)
theorem open_count : ∀ w, w < 7 → ∀ h, h < 7 → 1 ≤ w → 1 ≤ h → ((signL (openR w h) w 35).length = 0 ∧ (signL (openR w h) w 46).length = w * h) := by decide +kernel
theorem filter_ne_len {l : List Cel} (h : l.Nodup) {p : Cel} (hp : p ∈ l) : (l.filter fun q => !decide (p = q)).length + 1 = l.length := by
  induction l with
  | nil => cases hp
  | cons a l ih =>
    rw [List.nodup_cons] at h
    by_cases e : p = a
    · subst e
      have : (l.filter fun q => !decide (p = q)) = l := by
        rw [List.filter_eq_self]
        intro q hq
        have : p ≠ q := fun e => h.1 (e ▸ hq)
        simp [this]
      rw [List.filter_cons]
      simp [this]
    · have hp' : p ∈ l := (List.mem_cons.mp hp).resolve_left e
      have := ih h.2 hp'
      rw [List.filter_cons]
      simp only [e, decide_false, Bool.not_false, if_true, List.length_cons]
      omega
theorem open_pairs {w h : Nat} (w1 : 1 ≤ w) (w6 : w ≤ 6) (h1 : 1 ≤ h) (h6 : h ≤ 6) : (pairsL (openR w h) w).length = w * h * (w * h - 1) := by
  obtain ⟨e0, e1⟩ := open_count w (by omega) h (by omega) w1 h1
  have nw : signL (openR w h) w 35 = [] := List.eq_nil_of_length_eq_zero e0
  have nd := cells_nodup (openR w h) w 46
  unfold pairsL
  rw [← e1]
  generalize hC : signL (openR w h) w 46 = C at *
  have each : ∀ p ∈ C, ((C.filter fun q => seesB (openR w h) w p q).map fun q => (p, q)).length = C.length - 1 := fun p hp => by
    rw [List.length_map]
    have : (C.filter fun q => seesB (openR w h) w p q) = C.filter fun q => !decide (p = q) := by
      refine List.filter_congr fun q _ => ?_
      unfold seesB
      rw [nw]
      simp
    rw [this]
    exact Nat.eq_sub_of_add_eq (filter_ne_len nd hp)
  have gen : ∀ (l : List Cel) (f : Cel → List (Cel × Cel)) (k : Nat), (∀ p ∈ l, (f p).length = k) → (l.flatMap f).length = l.length * k := by
    intro l f k
    induction l with
    | nil => intro _; simp
    | cons a l ih =>
      intro hh
      rw [List.flatMap_cons, List.length_append, hh a List.mem_cons_self, ih fun p hp => hh p (List.mem_cons_of_mem _ hp), List.length_cons, Nat.succ_mul]
      omega
  exact gen C _ _ each
end RE
end
section
open PySem PySem.Spec PyProof.Rows L2 RE
namespace L
noncomputable def lpC0 : SS := sSeq (sAsg (cB addD (cV 1) (cLc [3] (cWalk (cFn "seen_from" (cCons (cV 0) (cCons (cV 2) (cNil))))) (gN 3) (cTrue) (cTup (cCons (cV 2) (cCons (cV 3) (cNil)))))) (gN 1)) (sNil)
noncomputable def lp2 : SS := sSeq (sRet (cV 1)) (sNil)
noncomputable def lp1 : SS := sSeq (sFor (cWalk (cFn "cells" (cCons (cV 0) (cNil)))) (gN 2) lpC0) lp2
noncomputable def lp0 : SS := sSeq (sAsg (cLst (cNil)) (gN 1)) lp1
noncomputable def k17CCC0 : SS := sSeq (sIf (cAndT (cBT inD (cV 15) (cFn "cells" (cCons (cV 3) (cNil)))) (cNotT (cTr (cFn "sees" (cCons (cV 3) (cCons (cTup (cCons (cV 13) (cCons (cV 14) (cNil)))) (cCons (cV 15) (cNil)))))))) (sSeq (sRet (cC (.bl false))) (sNil)) (sNil)) (sNil)
noncomputable def k17CC0 : SS := sSeq (sFor (cWalk (cTup (cCons (cTup (cCons (cB addD (cV 13) (cC (.int 1))) (cCons (cV 14) (cNil)))) (cCons (cTup (cCons (cV 13) (cCons (cB addD (cV 14) (cC (.int 1))) (cNil)))) (cNil))))) (gN 15) k17CCC0) (sNil)
noncomputable def k17C16 : SS := sSeq (sIf (cBT neD (cCall (op1 lenD) (cCons (cFn "_law_pairs" (cCons (cV 16) (cNil))) (cNil))) (cB mulD (cB mulD (cV 4) (cCall (op1 lenD) (cCons (cV 3) (cNil)))) (cB subD (cB mulD (cV 4) (cCall (op1 lenD) (cCons (cV 3) (cNil)))) (cC (.int 1))))) (sSeq (sRet (cC (.bl false))) (sNil)) (sNil)) (sNil)
noncomputable def k17C15 : SS := sSeq (sAsg (cB mulD (cTup (cCons (cB mulD (cC (.str ".")) (cV 4)) (cNil))) (cCall (op1 lenD) (cCons (cV 3) (cNil)))) (gN 16)) k17C16
noncomputable def k17C14 : SS := sSeq (sFor (cWalk (cFn "cells" (cCons (cV 3) (cNil)))) (gT (gsCons (gN 13) (gsCons (gN 14) (gsNil)))) k17CC0) k17C15
noncomputable def k17C13 : SS := sSeq (sIf (cAndT (cBT inD (cC (.str ".")) (cU (joinD "") (cV 11))) (cBT neD (cLc [23] (cWalk (cFn "_law_pairs" (cCons (cV 11) (cNil)))) (gN 23) (cBT notInD (cV 23) (cV 5)) (cV 23)) (cLst (cNil)))) (sSeq (sRet (cC (.bl false))) (sNil)) (sNil)) k17C14
noncomputable def k17C12 : SS := sSeq (sIf (cBT neD (cLc [23] (cWalk (cV 5)) (gN 23) (cBT notInD (cV 23) (cV 12)) (cV 23)) (cLst (cNil))) (sSeq (sRet (cC (.bl false))) (sNil)) (sNil)) k17C13
noncomputable def k17C11 : SS := sSeq (sAsg (cFn "_law_pairs" (cCons (cV 10) (cNil))) (gN 12)) k17C12
noncomputable def k17C10 : SS := sSeq (sPar [10, 11] (cCons (cFn "_law_signed" (cCons (cV 3) (cCons (cV 9) (cCons (cC (.str ".")) (cNil))))) (cCons (cFn "_law_signed" (cCons (cV 3) (cCons (cV 9) (cCons (cC (.str "#")) (cNil))))) (cNil)))) k17C11
noncomputable def k17C9 : SS := sSeq (sAsg (cTup (cCons (cB modD (cIx (cV 2) (cC (.int 50))) (cV 4)) (cCons (cB modD (cIx (cV 2) (cC (.int 51))) (cCall (op1 lenD) (cCons (cV 3) (cNil)))) (cNil)))) (gN 9)) k17C10
noncomputable def k17C8 : SS := sSeq (sIf (cBT neD (cFn "_law_pairs" (cCons (cV 8) (cNil))) (cCall (op1 sortedD) (cCons (cLc [17, 15] (cWalk (cV 5)) (gT (gsCons (gN 17) (gsCons (gN 15) (gsNil)))) (cTrue) (cTup (cCons (cU revD (cV 17)) (cCons (cU revD (cV 15)) (cNil))))) (cNil)))) (sSeq (sRet (cC (.bl false))) (sNil)) (sNil)) k17C9
noncomputable def k17C7 : SS := sSeq (sAsg (cCall (op1 tupleD) (cCons (cLc [13] (cRng1 (cV 4)) (gN 13) (cTrue) (cU (joinD "") (cLc [18] (cWalk (cV 3)) (gN 18) (cTrue) (cIx (cV 18) (cV 13))))) (cNil))) (gN 8)) k17C8
noncomputable def k17C6 : SS := sSeq (sIf (cBT neD (cFn "_law_pairs" (cCons (cV 6) (cNil))) (cV 7)) (sSeq (sRet (cC (.bl false))) (sNil)) (sNil)) k17C7
noncomputable def k17C5 : SS := sSeq (sAsg (cCall (op1 sortedD) (cCons (cLc [19, 20, 21, 22] (cWalk (cV 5)) (gT (gsCons (gT (gsCons (gN 19) (gsCons (gN 20) (gsNil)))) (gsCons (gT (gsCons (gN 21) (gsCons (gN 22) (gsNil)))) (gsNil)))) (cTrue) (cTup (cCons (cTup (cCons (cB subD (cB subD (cV 4) (cC (.int 1))) (cV 19)) (cCons (cV 20) (cNil)))) (cCons (cTup (cCons (cB subD (cB subD (cV 4) (cC (.int 1))) (cV 21)) (cCons (cV 22) (cNil)))) (cNil))))) (cNil))) (gN 7)) k17C6
noncomputable def k17C4 : SS := sSeq (sAsg (cCall (op1 tupleD) (cCons (cLc [18] (cWalk (cV 3)) (gN 18) (cTrue) (cU revD (cV 18))) (cNil))) (gN 6)) k17C5
noncomputable def k17C3 : SS := sSeq (sIf (cBT neD (cCall (op1 sortedD) (cCons (cLc [17, 15] (cWalk (cV 5)) (gT (gsCons (gN 17) (gsCons (gN 15) (gsNil)))) (cTrue) (cTup (cCons (cV 15) (cCons (cV 17) (cNil))))) (cNil))) (cV 5)) (sSeq (sRet (cC (.bl false))) (sNil)) (sNil)) k17C4
noncomputable def k17C2 : SS := sSeq (sAsg (cTup (cCons (cCall (op1 lenD) (cCons (cIx (cV 3) (cC (.int 0))) (cNil))) (cCons (cFn "_law_pairs" (cCons (cV 3) (cNil))) (cNil)))) (gT (gsCons (gN 4) (gsCons (gN 5) (gsNil))))) k17C3
noncomputable def k17C1 : SS := sSeq (sAsg (cFn "_law_room" (cCons (cV 2) (cNil))) (gN 3)) k17C2
noncomputable def k17C0 : SS := sSeq (sAsg (cFn "_law_draws" (cCons (cV 0) (cCons (cV 1) (cCons (cC (.int 60)) (cCons (cC (.int 27720)) (cNil)))))) (gN 2)) k17C1
noncomputable def k171 : SS := sSeq (sRet (cC (.bl true))) (sNil)
noncomputable def k170 : SS := sSeq (sFor (cWalk (cTup (cCons (cC (.int 0)) (cCons (cC (.int 2)) (cCons (cC (.int 4)) (cNil)))))) (gN 1) k17C0) k171
theorem lp_eq : b__law_pairs = lp0 := rfl
theorem k17_eq : b_law = k170 := rfl
end L
namespace RE
/-- a row as a list of signs -/
def rowD (s : Str) : D := .lst ((chs s).map fun c => .str (chS [c]))
def gridD (rs : List Str) : D := .lst (rs.map rowD)
theorem list_row {s : Str} (h : s.length ≤ 100000) : listDD (.str s) = some (rowD s) := by
  show (if fits s.length then _ else none) = _
  rw [fits_of h]
  rfl
theorem ixN_at {n j : Nat} (hj : j < n) : L2.ixN n (j : Int) = some j := by
  unfold L2.ixN
  rw [if_pos (by omega), if_pos (by omega), Int.toNat_natCast]
theorem s_cNL (own : List Nat) (fi : SL) (asg : SG) (fe : SE) (F : Fn) (ρ : RE.Env) : cNL own fi asg fe F ρ = (cLc own fi asg cTrue fe F ρ).bind fun d => match d with
  | .lst ds => if ds.all isLst then some (.lst ds) else none
  | _ => none := (rfl)
theorem s_sNest (i : Nat) (f f1 f2 g : SE) (h : SS) (F : Fn) (ρ : RE.Env) : sNest i f f1 f2 g h F ρ = (f F ρ).bind fun o => if allAtm o = true then (cV i F (ρ.set i (some o))).bind fun _ => (g F (ρ.set i (some o))).bind fun v => if isAtm v = true then (f1 F (ρ.set i (some o))).bind fun k1 => (f2 F (ρ.set i (some o))).bind fun k2 => (nestD o k1 k2 v).bind fun d => h F (ρ.set i (some d)) else none else none := (rfl)
theorem grid_atm (rs : List Str) : allAtm (gridD rs) = true := by
  unfold gridD
  show (rs.map rowD).all atmL = true
  rw [List.all_eq_true]
  intro x hx
  obtain ⟨s, _, rfl⟩ := List.mem_map.mp hx
  show ((chs s).map fun c => D.str (chS [c])).all isAtm = true
  rw [List.all_eq_true]
  intro y hy
  obtain ⟨c, _, rfl⟩ := List.mem_map.mp hy
  rfl
theorem grid_lst (rs : List Str) : (rs.map rowD).all isLst = true := by
  rw [List.all_eq_true]
  intro x hx
  obtain ⟨s, _, rfl⟩ := List.mem_map.mp hx
  rfl
theorem nest_grid {rs : List Str} {w : Nat} (h : RoomOk rs w) {c : Cel} (hx : c.1 < w) (hy : c.2 < rs.length) (z : Nat) : nestD (gridD rs) (natD c.2) (natD c.1) (.str (chS [z])) = some (gridD (setR rs c z)) := by
  have hl := h.len rs[c.2] (List.getElem_mem hy)
  have e1 : L2.ixN (rs.map rowD).length (c.2 : Int) = some c.2 := ixN_at (by rw [List.length_map]; exact hy)
  have e2 : (rs.map rowD)[c.2]? = some (rowD rs[c.2]) := by rw [List.getElem?_map, List.getElem?_eq_getElem hy]; rfl
  have e3 : L2.ixN ((chs rs[c.2]).map fun c => D.str (chS [c])).length (c.1 : Int) = some c.1 := ixN_at (by rw [List.length_map, hl]; exact hx)
  have e4 : rs.getD c.2 (chS []) = rs[c.2] := by simp [List.getD, hy]
  have l1 : lstOf (gridD rs) = some (rs.map rowD) := rfl
  have l2 : lstOf (rowD rs[c.2]) = some ((chs rs[c.2]).map fun c => D.str (chS [c])) := rfl
  have i1 : ∀ n : Nat, intOf (natD n) = some (n : Int) := fun _ => rfl
  unfold nestD
  rw [l1, obS, i1, obS, i1, obS, e1, obS, e2, obS, l2, obS, e3, omS]
  congr 1
  unfold gridD setR
  rw [e4, List.map_set]
  unfold rowD
  rw [chs_chS, List.map_set]
theorem join_row {s : Str} (h : (chs s).length ≤ 1000) : joinD (chS []) (rowD s) = some (.str s) := by
  unfold rowD
  rw [join_chars h, chS_chs]
end RE
namespace L
theorem pairs_ev (n : Nat) {rs : List Str} {w : Nat} (hr : RoomOk rs w) : lvl (DT rows) (n + 5) "_law_pairs" [roomD rs] = some (.lst ((pairsL rs w).map pairPD)) := by
  have fc : lvl (DT rows) (n + 4) "cells" [roomD rs] = some (cellsD (signL rs w 46)) := cells_ev (n + 2) hr
  have fs : ∀ p ∈ signL rs w 46, lvl (DT rows) (n + 4) "seen_from" [roomD rs, cellD p] = some (cellsD ((signL rs w 46).filter fun q => seesB rs w p q)) := fun p hp => seen_from_ev n hr p (hr.in6 hp)
  have cl := hr.cells_len 46
  rw [v__law_pairs]
  unfold pairsL
  generalize lvl (DT rows) (n + 4) = F at *
  generalize signL rs w 46 = C at *
  have hg : ∀ p, ((C.filter fun q => seesB rs w p q).map fun q => (p, q)).length ≤ 36 := fun p => by
    rw [List.length_map]
    have := List.length_filter_le (fun q => seesB rs w p q) C
    omega
  have loop : ∀ (l : List Cel) (acc : List (Cel × Cel)) (x2 x3 : Option D), (∀ p ∈ l, p ∈ C) → acc.length + 36 * l.length ≤ 100000 → ∃ y2 y3, forD (gN 2) (lpC0 F) (l.map cellD) [some (roomD rs), some (.lst (acc.map pairPD)), x2, x3] = some (.nx [some (roomD rs), some (.lst ((acc ++ l.flatMap fun p => (C.filter fun q => seesB rs w p q).map fun q => (p, q)).map pairPD)), y2, y3]) := by
    intro l
    induction l with
    | nil => intro acc x2 x3 _ _; exact ⟨x2, x3, by simp [forD]⟩
    | cons p l ih =>
      intro acc x2 x3 hm hb
      rw [List.length_cons] at hb
      have h36 := hg p
      have wl : walkL (cellsD (C.filter fun q => seesB rs w p q)) = some ((C.filter fun q => seesB rs w p q).map cellD) := rfl
      have L1 : lcAll (lcOne (gN 3) cTrue (cTup (cCons (cV 2) (cCons (cV 3) (cNil)))) F [some (roomD rs), some (.lst (acc.map pairPD)), some (cellD p), none]) ((C.filter fun q => seesB rs w p q).map cellD) = some ((C.filter fun q => seesB rs w p q).map fun q => pairPD (p, q)) := lc_map fun q _ => by
        simp only [s_sSeq, s_sNil, s_sRet, s_sRetT, s_sIf, s_sAsg, s_sPar, s_sSetM, s_cND, s_cC, s_cB, s_cU, s_cTup, s_cLst, s_cNil, s_cCons, s_cCall, s_cFn, s_cIx, s_cAnd, s_cOr, s_cNot, s_cIf, s_cTr, s_cBT, s_cAndT, s_cOrT, s_cNotT, s_cCh, s_cChT, s_cSl, s_sFor, s_cWalk, s_cLc, s_lcOne, s_cTrue, s_sApp, s_gN, s_gT, s_gsNil, s_gsCons, s_cV0, s_cVs, s_finR, s_finN, s_boolD, s_truB, s_setAll0, s_setAll1, s_op1, s_op2, s_abs, s_addI, s_subI, eqI, neI, ltI, gtI, leI, geI, mkTup1, mkTup2, mkTup3, idx_t0, idx_t1, idx_t2, obS, omS, List.set_cons_zero, List.set_cons_succ, s_cNone, s_cPart, s_intD, s_cRng1, s_walkL, s_walkT, s_lenT, s_lenL, s_lenS, s_slT, s_slL, if_true, if_false, decide_true, decide_false, Bool.not_true, Bool.not_false, Bool.and_true, Bool.and_false, Bool.true_and, Bool.false_and, Bool.false_eq_true, decide_eq_true_eq, s_cEnum, s_sPut, s_revL, s_revT, s_listL, s_listT, s_tupleL, s_tupleT, s_isDicLst, s_isDicTup, s_isDicInt, wipeE_nil, wipeE_cons]
        rfl
      have L2 : mkLst ((C.filter fun q => seesB rs w p q).map fun q => pairPD (p, q)) = some (.lst ((C.filter fun q => seesB rs w p q).map fun q => pairPD (p, q))) := mkLst_ev (by rw [List.length_map] at h36 ⊢; omega)
      have e1 : ((C.filter fun q => seesB rs w p q).map fun q => pairPD (p, q)) = ((C.filter fun q => seesB rs w p q).map fun q => (p, q)).map pairPD := by rw [List.map_map]; rfl
      rw [e1] at L1 L2
      have fp := fs p (hm p List.mem_cons_self)
      have ad : addD (.lst (acc.map pairPD)) (.lst (((C.filter fun q => seesB rs w p q).map fun q => (p, q)).map pairPD)) = some (.lst ((acc ++ (C.filter fun q => seesB rs w p q).map fun q => (p, q)).map pairPD)) := by
        rw [add_lst (by rw [List.length_map, List.length_map]; omega), List.map_append]
      obtain ⟨y2, y3, h⟩ := ih (acc ++ (C.filter fun q => seesB rs w p q).map fun q => (p, q)) (some (cellD p)) x3 (fun q hq => hm q (List.mem_cons_of_mem _ hq)) (by rw [List.length_append]; omega)
      refine ⟨y2, y3, ?_⟩
      rw [List.map_cons, forD]
      simp only [s_gN, obS, List.set_cons_succ, List.set_cons_zero]
      have step : lpC0 F [some (roomD rs), some (.lst (acc.map pairPD)), some (cellD p), x3] = some (.nx [some (roomD rs), some (.lst ((acc ++ (C.filter fun q => seesB rs w p q).map fun q => (p, q)).map pairPD)), some (cellD p), x3]) := by
        unfold lpC0
        simp only [s_sSeq, s_sNil, s_sRet, s_sRetT, s_sIf, s_sAsg, s_sPar, s_sSetM, s_cND, s_cC, s_cB, s_cU, s_cTup, s_cLst, s_cNil, s_cCons, s_cCall, s_cFn, s_cIx, s_cAnd, s_cOr, s_cNot, s_cIf, s_cTr, s_cBT, s_cAndT, s_cOrT, s_cNotT, s_cCh, s_cChT, s_cSl, s_sFor, s_cWalk, s_cLc, s_lcOne, s_cTrue, s_sApp, s_gN, s_gT, s_gsNil, s_gsCons, s_cV0, s_cVs, s_finR, s_finN, s_boolD, s_truB, s_setAll0, s_setAll1, s_op1, s_op2, s_abs, s_addI, s_subI, eqI, neI, ltI, gtI, leI, geI, mkTup1, mkTup2, mkTup3, idx_t0, idx_t1, idx_t2, obS, omS, List.set_cons_zero, List.set_cons_succ, s_cNone, s_cPart, s_intD, s_cRng1, s_walkL, s_walkT, s_lenT, s_lenL, s_lenS, s_slT, s_slL, if_true, if_false, decide_true, decide_false, Bool.not_true, Bool.not_false, Bool.and_true, Bool.and_false, Bool.true_and, Bool.false_and, Bool.false_eq_true, decide_eq_true_eq, s_cEnum, s_sPut, s_revL, s_revT, s_listL, s_listT, s_tupleL, s_tupleT, s_isDicLst, s_isDicTup, s_isDicInt, wipeE_nil, wipeE_cons, fp, wl, L1, L2, ad]
      rw [step]
      simp only [obS]
      rw [h, List.flatMap_cons, List.append_assoc]
  obtain ⟨y2, y3, h⟩ := loop C [] none none (fun _ h => h) (by simp; omega)
  have wl : walkL (cellsD C) = some (C.map cellD) := rfl
  have mk : mkLst [] = some (.lst []) := rfl
  rw [List.nil_append] at h
  rw [lp_eq]
  unfold lp0
  simp only [s_sSeq, s_sNil, s_sRet, s_sRetT, s_sIf, s_sAsg, s_sPar, s_sSetM, s_cND, s_cC, s_cB, s_cU, s_cTup, s_cLst, s_cNil, s_cCons, s_cCall, s_cFn, s_cIx, s_cAnd, s_cOr, s_cNot, s_cIf, s_cTr, s_cBT, s_cAndT, s_cOrT, s_cNotT, s_cCh, s_cChT, s_cSl, s_sFor, s_cWalk, s_cLc, s_lcOne, s_cTrue, s_sApp, s_gN, s_gT, s_gsNil, s_gsCons, s_cV0, s_cVs, s_finR, s_finN, s_boolD, s_truB, s_setAll0, s_setAll1, s_op1, s_op2, s_abs, s_addI, s_subI, eqI, neI, ltI, gtI, leI, geI, mkTup1, mkTup2, mkTup3, idx_t0, idx_t1, idx_t2, obS, omS, List.set_cons_zero, List.set_cons_succ, s_cNone, s_cPart, s_intD, s_cRng1, s_walkL, s_walkT, s_lenT, s_lenL, s_lenS, s_slT, s_slL, if_true, if_false, decide_true, decide_false, Bool.not_true, Bool.not_false, Bool.and_true, Bool.and_false, Bool.true_and, Bool.false_and, Bool.false_eq_true, decide_eq_true_eq, s_cEnum, s_sPut, s_revL, s_revT, s_listL, s_listT, s_tupleL, s_tupleT, s_isDicLst, s_isDicTup, s_isDicInt, wipeE_nil, wipeE_cons, mk]
  unfold lp1
  simp only [s_sSeq, s_sFor, s_cWalk, s_cFn, s_cCons, s_cNil, s_cV0, obS, fc, wl]
  rw [List.map_nil] at h
  rw [h]
  unfold lp2
  simp only [s_sSeq, s_sNil, s_sRet, s_sRetT, s_sIf, s_sAsg, s_sPar, s_sSetM, s_cND, s_cC, s_cB, s_cU, s_cTup, s_cLst, s_cNil, s_cCons, s_cCall, s_cFn, s_cIx, s_cAnd, s_cOr, s_cNot, s_cIf, s_cTr, s_cBT, s_cAndT, s_cOrT, s_cNotT, s_cCh, s_cChT, s_cSl, s_sFor, s_cWalk, s_cLc, s_lcOne, s_cTrue, s_sApp, s_gN, s_gT, s_gsNil, s_gsCons, s_cV0, s_cVs, s_finR, s_finN, s_boolD, s_truB, s_setAll0, s_setAll1, s_op1, s_op2, s_abs, s_addI, s_subI, eqI, neI, ltI, gtI, leI, geI, mkTup1, mkTup2, mkTup3, idx_t0, idx_t1, idx_t2, obS, omS, List.set_cons_zero, List.set_cons_succ, s_cNone, s_cPart, s_intD, s_cRng1, s_walkL, s_walkT, s_lenT, s_lenL, s_lenS, s_slT, s_slL, if_true, if_false, decide_true, decide_false, Bool.not_true, Bool.not_false, Bool.and_true, Bool.and_false, Bool.true_and, Bool.false_and, Bool.false_eq_true, decide_eq_true_eq, s_cEnum, s_sPut, s_revL, s_revT, s_listL, s_listT, s_tupleL, s_tupleT, s_isDicLst, s_isDicTup, s_isDicInt, wipeE_nil, wipeE_cons]
theorem law_signed_ev (n : Nat) {rs : List Str} {w : Nat} (hr : RoomOk rs w) {c : Cel} (hx : c.1 < w) (hy : c.2 < rs.length) {z : Nat} (hz : z = 46 ∨ z = 35) : lvl (DT rows) (n + 1) "_law_signed" [roomD rs, cellD c, .str (chS [z])] = some (roomD (setR rs c z)) := by
  have so := set_ok hr c hz
  rw [v__law_signed]
  generalize lvl (DT rows) n = F
  have h6 := hr.h6
  have w6 := hr.w6
  have wl : walkL (roomD rs) = some (rs.map .str) := rfl
  have L1 : lcAll (lcOne (gN 4) cTrue (cCall (op1 listDD) (cCons (cV 4) (cNil))) F [some (roomD rs), some (cellD c), some (.str (chS [z])), none, none]) (rs.map .str) = some (rs.map rowD) := lc_map fun s hs => by
    have := list_row (s := s) (by rw [len_chs, hr.len s hs]; omega)
    simp only [s_sSeq, s_sNil, s_sRet, s_sRetT, s_sIf, s_sAsg, s_sPar, s_sSetM, s_cND, s_cC, s_cB, s_cU, s_cTup, s_cLst, s_cNil, s_cCons, s_cCall, s_cFn, s_cIx, s_cAnd, s_cOr, s_cNot, s_cIf, s_cTr, s_cBT, s_cAndT, s_cOrT, s_cNotT, s_cCh, s_cChT, s_cSl, s_sFor, s_cWalk, s_cLc, s_lcOne, s_cTrue, s_sApp, s_gN, s_gT, s_gsNil, s_gsCons, s_cV0, s_cVs, s_finR, s_finN, s_boolD, s_truB, s_setAll0, s_setAll1, s_op1, s_op2, s_abs, s_addI, s_subI, eqI, neI, ltI, gtI, leI, geI, mkTup1, mkTup2, mkTup3, idx_t0, idx_t1, idx_t2, obS, omS, List.set_cons_zero, List.set_cons_succ, s_cNone, s_cPart, s_intD, s_cRng1, s_walkL, s_walkT, s_lenT, s_lenL, s_lenS, s_slT, s_slL, if_true, if_false, decide_true, decide_false, Bool.not_true, Bool.not_false, Bool.and_true, Bool.and_false, Bool.true_and, Bool.false_and, Bool.false_eq_true, decide_eq_true_eq, s_cEnum, s_sPut, s_revL, s_revT, s_listL, s_listT, s_tupleL, s_tupleT, s_isDicLst, s_isDicTup, s_isDicInt, wipeE_nil, wipeE_cons, this]
  have L2 : mkLst (rs.map rowD) = some (.lst (rs.map rowD)) := mkLst_ev (by rw [List.length_map]; omega)
  have ix0 : idxD (cellD c) (.int 0) = some (natD c.1) := idx_t0 _ _
  have ix1 : idxD (cellD c) (.int 1) = some (natD c.2) := idx_t1 _ _ _
  have ne := nest_grid hr hx hy z
  have wg : walkL (gridD (setR rs c z)) = some ((setR rs c z).map rowD) := rfl
  have at1 : isAtm (.str (chS [z])) = true := rfl
  have L3 : lcAll (lcOne (gN 4) cTrue (cU (joinD "") (cV 4)) F [some (roomD rs), some (cellD c), some (.str (chS [z])), some (gridD (setR rs c z)), none]) ((setR rs c z).map rowD) = some ((setR rs c z).map .str) := lc_map fun s hs => by
    have : joinD (Str.ofString "") (rowD s) = some (.str s) := by
      rw [lit_nil]
      exact join_row (by rw [so.len s hs]; omega)
    simp only [s_sSeq, s_sNil, s_sRet, s_sRetT, s_sIf, s_sAsg, s_sPar, s_sSetM, s_cND, s_cC, s_cB, s_cU, s_cTup, s_cLst, s_cNil, s_cCons, s_cCall, s_cFn, s_cIx, s_cAnd, s_cOr, s_cNot, s_cIf, s_cTr, s_cBT, s_cAndT, s_cOrT, s_cNotT, s_cCh, s_cChT, s_cSl, s_sFor, s_cWalk, s_cLc, s_lcOne, s_cTrue, s_sApp, s_gN, s_gT, s_gsNil, s_gsCons, s_cV0, s_cVs, s_finR, s_finN, s_boolD, s_truB, s_setAll0, s_setAll1, s_op1, s_op2, s_abs, s_addI, s_subI, eqI, neI, ltI, gtI, leI, geI, mkTup1, mkTup2, mkTup3, idx_t0, idx_t1, idx_t2, obS, omS, List.set_cons_zero, List.set_cons_succ, s_cNone, s_cPart, s_intD, s_cRng1, s_walkL, s_walkT, s_lenT, s_lenL, s_lenS, s_slT, s_slL, if_true, if_false, decide_true, decide_false, Bool.not_true, Bool.not_false, Bool.and_true, Bool.and_false, Bool.true_and, Bool.false_and, Bool.false_eq_true, decide_eq_true_eq, s_cEnum, s_sPut, s_revL, s_revT, s_listL, s_listT, s_tupleL, s_tupleT, s_isDicLst, s_isDicTup, s_isDicInt, wipeE_nil, wipeE_cons]
    exact congrArg (fun o => Option.map (fun y => [y]) o) this
  have L4 : mkLst ((setR rs c z).map .str) = some (.lst ((setR rs c z).map .str)) := mkLst_ev (by rw [List.length_map]; have := so.h6; omega)
  have cNLe : cNL [4] (cWalk (cV 0)) (gN 4) (cCall (op1 listDD) (cCons (cV 4) (cNil))) F [some (roomD rs), some (cellD c), some (.str (chS [z])), none, none] = some (gridD rs) := by
    rw [s_cNL, s_cLc]
    simp only [s_cWalk, s_cV0, obS, wl, wipeE_cons, wipeE_nil, List.set_cons_succ, List.set_cons_zero]
    rw [L1]
    simp only [obS, L2, grid_lst, if_true]
    rfl
  unfold b__law_signed
  rw [s_sNest, cNLe, obS, if_pos (grid_atm rs)]
  simp only [s_cVs, s_cV0, List.set_cons_succ, List.set_cons_zero, obS, at1, if_true, s_cIx, s_cC, ix0, ix1, ne]
  rw [s_sSeq, s_sRet, s_cCall, s_cCons, s_cLc]
  simp only [s_cWalk, s_cVs, s_cV0, obS, wg, wipeE_cons, wipeE_nil, List.set_cons_succ, List.set_cons_zero]
  rw [L3]
  simp only [obS, L4, s_cNil, s_op1, s_tupleL, omS, s_finR]
  rfl
end L
namespace RE
theorem pd_pairs (l : List (Cel × Cel)) : pd 64 (.lst (l.map pairPD)) = true := by
  rw [pd_lst 63, List.all_eq_true]
  intro x hx
  obtain ⟨p, _, rfl⟩ := List.mem_map.mp hx
  exact pd_pair 61 p
theorem ne_pairs (l : List (Cel × Cel)) : neD (.lst (l.map pairPD)) (.lst (l.map pairPD)) = some (.bl false) := ne_self (pd_pairs l)
theorem addN1 (x : Nat) : addD (natD x) (.int 1) = some (natD (x + 1)) := rfl
theorem pairs_len {rs : List Str} {w : Nat} (hr : RoomOk rs w) : (pairsL rs w).length ≤ 1296 := by
  unfold pairsL
  have c := hr.cells_len 46
  refine Nat.le_trans (flatMap_len _ 36 _ fun p _ => ?_) (by omega)
  rw [List.length_map]
  have := List.length_filter_le (fun q => seesB rs w p q) (signL rs w 46)
  omega
theorem open_D {w h : Nat} (w1 : 1 ≤ w) (w6 : w ≤ 6) (h1 : 1 ≤ h) (h6 : h ≤ 6) : mulD (.str (chS [46])) (.int (w : Int)) = some (.str (chS (List.replicate w 46))) ∧ mulD (.tup [.str (chS (List.replicate w 46))]) (.int (h : Int)) = some (roomD (openR w h)) := by
  constructor
  · have e : mulD (.str (chS [46])) (.int (w : Int)) = if decide (1 ≤ (w : Int)) && decide ((w : Int) ≤ 1000) && decide ((chS [46]).length ≤ 1000) then some (.str (mulS (chS [46]) (w : Int))) else none := rfl
    have l1 : (chS [46]).length = 1 := rfl
    rw [e, l1, decide_eq_true (by omega), decide_eq_true (by omega)]
    simp only [Bool.and_true, Bool.true_and, decide_eq_true_eq]
    rw [if_pos (by decide)]
    congr 2
    unfold mulS chS
    congr 2
    have : ([46].toArray.toList) = [46] := rfl
    rw [this, Int.toNat_natCast]
    clear e l1
    induction w with
    | zero => rfl
    | succ k ih =>
      by_cases hk : 1 ≤ k
      · rw [List.replicate_succ, List.flatten_cons, ih hk (by omega), List.replicate_succ]; rfl
      · have : k = 0 := by omega
        subst this; rfl
  · generalize hz : D.str (chS (List.replicate w 46)) = z
    have er : roomD (openR w h) = .tup (List.replicate h z) := by
      unfold roomD openR
      rw [List.map_replicate, hz]
    have e : mulD (.tup [z]) (.int (h : Int)) = if (h : Int) = 1 then some (.tup [z]) else if decide (2 ≤ (h : Int)) && decide ((h : Int) ≤ 1000) && decide ([z].length ≤ 1000) && ![z].isEmpty then some (.tup (repL (h : Int) [z])) else none := rfl
    rw [e, er]
    by_cases hh : h = 1
    · subst hh
      rw [if_pos (by omega)]; rfl
    · rw [if_neg (by omega), decide_eq_true (by omega : 2 ≤ (h : Int)), decide_eq_true (by omega : (h : Int) ≤ 1000)]
      rw [if_pos (by rfl)]
      congr 2
      unfold repL
      rw [Int.toNat_natCast]
      clear e er
      induction h with
      | zero => rfl
      | succ k ih =>
        by_cases hk : k = 1 ∨ k = 0
        · rcases hk with rfl | rfl <;> rfl
        · rw [List.replicate_succ, List.flatten_cons, ih (by omega) (by omega) (by omega), List.replicate_succ]; rfl
theorem filter_nil {l m : List (Cel × Cel)} (h : ∀ a ∈ l, a ∈ m) : (l.filter fun a => !decide (a ∈ m)) = [] := by
  rw [List.filter_eq_nil_iff]
  intro a ha
  rw [decide_eq_true (h a ha)]
  simp
end RE
namespace L
theorem t14_ev (F : Fn) {rs : List Str} {w : Nat} (hr : RoomOk rs w) (fc : F "cells" [roomD rs] = some (cellsD (signL rs w 46))) (fb : ∀ p q, p ∈ signL rs w 46 → q ∈ signL rs w 46 → F "sees" [roomD rs, cellD p, cellD q] = some (.bl (seesB rs w p q))) (fe : F "_law_pairs" [roomD (openR w rs.length)] = some (.lst ((pairsL (openR w rs.length) w).map pairPD)))
    (s a d P m du o c op sh mo x13 x14 x15 x16 x17 x18 x19 x20 x21 x22 x23 : Option D) : ∃ y13 y14 y15 y16, k17C14 F [s, a, d, some (roomD rs), some (.int (w : Int)), P, m, du, o, c, op, sh, mo, x13, x14, x15, x16, x17, x18, x19, x20, x21, x22, x23] = some (.nx [s, a, d, some (roomD rs), some (.int (w : Int)), P, m, du, o, c, op, sh, mo, y13, y14, y15, y16, x17, x18, x19, x20, x21, x22, x23]) := by
  have hop := open_D hr.w1 hr.w6 hr.h1 hr.h6
  have hlen := open_pairs hr.w1 hr.w6 hr.h1 hr.h6
  have w1 := hr.w1
  have w6 := hr.w6
  have h1 := hr.h1
  have h6 := hr.h6
  have bes := fun p q hp hq => beside (rs := rs) (w := w) (p := p) (q := q) hp hq
  have lr : lenD (roomD rs) = some (.int (rs.length : Int)) := by unfold roomD; rw [s_lenT, List.length_map]
  generalize openR w rs.length = R0 at *
  generalize hh : rs.length = h at *
  generalize roomD rs = R at *
  generalize hC : signL rs w 46 = C at *
  have step : ∀ p ∈ C, ∀ q, q = (p.1 + 1, p.2) ∨ q = (p.1, p.2 + 1) → k17CCC0 F [s, a, d, some R, some (.int (w : Int)), P, m, du, o, c, op, sh, mo, some (natD p.1), some (natD p.2), some (cellD q), x16, x17, x18, x19, x20, x21, x22, x23] = some (.nx [s, a, d, some R, some (.int (w : Int)), P, m, du, o, c, op, sh, mo, some (natD p.1), some (natD p.2), some (cellD q), x16, x17, x18, x19, x20, x21, x22, x23]) := by
    intro p hp q hq
    have mc := mem_cells q C
    unfold k17CCC0
    by_cases hm : q ∈ C
    · rw [decide_eq_true hm] at mc
      have fs := fb p q hp hm
      rw [bes p q hp hm hq] at fs
      have ec : D.tup [natD p.1, natD p.2] = cellD p := rfl
      simp only [s_sSeq, s_sNil, s_sRet, s_sRetT, s_sIf, s_sAsg, s_sPar, s_sSetM, s_cND, s_cC, s_cB, s_cU, s_cTup, s_cLst, s_cNil, s_cCons, s_cCall, s_cFn, s_cIx, s_cAnd, s_cOr, s_cNot, s_cIf, s_cTr, s_cBT, s_cAndT, s_cOrT, s_cNotT, s_cCh, s_cChT, s_cSl, s_sFor, s_cWalk, s_cLc, s_lcOne, s_cTrue, s_sApp, s_gN, s_gT, s_gsNil, s_gsCons, s_cV0, s_cVs, s_finR, s_finN, s_boolD, s_truB, s_setAll0, s_setAll1, s_op1, s_op2, s_abs, s_addI, s_subI, eqI, neI, ltI, gtI, leI, geI, mkTup1, mkTup2, mkTup3, idx_t0, idx_t1, idx_t2, obS, omS, List.set_cons_zero, List.set_cons_succ, s_cNone, s_cPart, s_intD, s_cRng1, s_walkL, s_walkT, s_lenT, s_lenL, s_lenS, s_slT, s_slL, if_true, if_false, decide_true, decide_false, Bool.not_true, Bool.not_false, Bool.and_true, Bool.and_false, Bool.true_and, Bool.false_and, Bool.false_eq_true, decide_eq_true_eq, s_cEnum, s_sPut, s_revL, s_revT, s_listL, s_listT, s_tupleL, s_tupleT, s_isDicLst, s_isDicTup, s_isDicInt, wipeE_nil, wipeE_cons, fc, mc, ec, fs]
    · rw [decide_eq_false hm] at mc
      simp only [s_sSeq, s_sNil, s_sRet, s_sRetT, s_sIf, s_sAsg, s_sPar, s_sSetM, s_cND, s_cC, s_cB, s_cU, s_cTup, s_cLst, s_cNil, s_cCons, s_cCall, s_cFn, s_cIx, s_cAnd, s_cOr, s_cNot, s_cIf, s_cTr, s_cBT, s_cAndT, s_cOrT, s_cNotT, s_cCh, s_cChT, s_cSl, s_sFor, s_cWalk, s_cLc, s_lcOne, s_cTrue, s_sApp, s_gN, s_gT, s_gsNil, s_gsCons, s_cV0, s_cVs, s_finR, s_finN, s_boolD, s_truB, s_setAll0, s_setAll1, s_op1, s_op2, s_abs, s_addI, s_subI, eqI, neI, ltI, gtI, leI, geI, mkTup1, mkTup2, mkTup3, idx_t0, idx_t1, idx_t2, obS, omS, List.set_cons_zero, List.set_cons_succ, s_cNone, s_cPart, s_intD, s_cRng1, s_walkL, s_walkT, s_lenT, s_lenL, s_lenS, s_slT, s_slL, if_true, if_false, decide_true, decide_false, Bool.not_true, Bool.not_false, Bool.and_true, Bool.and_false, Bool.true_and, Bool.false_and, Bool.false_eq_true, decide_eq_true_eq, s_cEnum, s_sPut, s_revL, s_revT, s_listL, s_listT, s_tupleL, s_tupleT, s_isDicLst, s_isDicTup, s_isDicInt, wipeE_nil, wipeE_cons, fc, mc]
  have inner : ∀ p ∈ C, ∀ x15, k17CC0 F [s, a, d, some R, some (.int (w : Int)), P, m, du, o, c, op, sh, mo, some (natD p.1), some (natD p.2), x15, x16, x17, x18, x19, x20, x21, x22, x23] = some (.nx [s, a, d, some R, some (.int (w : Int)), P, m, du, o, c, op, sh, mo, some (natD p.1), some (natD p.2), some (cellD (p.1, p.2 + 1)), x16, x17, x18, x19, x20, x21, x22, x23]) := by
    intro p hp x15
    have a1 := addN1 p.1
    have a2 := addN1 p.2
    have s1 := step p hp (p.1 + 1, p.2) (.inl rfl)
    have s2 := step p hp (p.1, p.2 + 1) (.inr rfl)
    have c1 : D.tup [natD (p.1 + 1), natD p.2] = cellD (p.1 + 1, p.2) := rfl
    have c2 : D.tup [natD p.1, natD (p.2 + 1)] = cellD (p.1, p.2 + 1) := rfl
    unfold k17CC0
    rw [s_sSeq, s_sFor]
    simp only [s_cWalk, s_cTup, s_cCons, s_cB, s_cVs, s_cV0, s_cC, s_cNil, obS, a1, a2, mkTup2, s_walkT, c1, c2]
    rw [forD, s_gN, obS]
    simp only [List.set_cons_succ, List.set_cons_zero]
    rw [s1]
    simp only [obS]
    rw [forD, s_gN, obS]
    simp only [List.set_cons_succ, List.set_cons_zero]
    rw [s2]
    simp only [obS]
    rfl
  have loop : ∀ (l : List Cel), (∀ p ∈ l, p ∈ C) → ∀ x13 x14 x15, ∃ y13 y14 y15, forD (gT (gsCons (gN 13) (gsCons (gN 14) (gsNil)))) (k17CC0 F) (l.map cellD) [s, a, d, some R, some (.int (w : Int)), P, m, du, o, c, op, sh, mo, x13, x14, x15, x16, x17, x18, x19, x20, x21, x22, x23] = some (.nx [s, a, d, some R, some (.int (w : Int)), P, m, du, o, c, op, sh, mo, y13, y14, y15, x16, x17, x18, x19, x20, x21, x22, x23]) := by
    intro l
    induction l with
    | nil => intro _ x13 x14 x15; exact ⟨x13, x14, x15, rfl⟩
    | cons p l ih =>
      intro hm x13 x14 x15
      obtain ⟨y13, y14, y15, e⟩ := ih (fun q hq => hm q (List.mem_cons_of_mem _ hq)) (some (natD p.1)) (some (natD p.2)) (some (cellD (p.1, p.2 + 1)))
      refine ⟨y13, y14, y15, ?_⟩
      have ga : gT (gsCons (gN 13) (gsCons (gN 14) gsNil)) (cellD p) [s, a, d, some R, some (.int (w : Int)), P, m, du, o, c, op, sh, mo, x13, x14, x15, x16, x17, x18, x19, x20, x21, x22, x23] = some [s, a, d, some R, some (.int (w : Int)), P, m, du, o, c, op, sh, mo, some (natD p.1), some (natD p.2), x15, x16, x17, x18, x19, x20, x21, x22, x23] := rfl
      rw [List.map_cons, forD, ga, obS, inner p (hm p List.mem_cons_self)]
      simp only [obS]
      exact e
  obtain ⟨y13, y14, y15, e⟩ := loop C (fun _ h => h) x13 x14 x15
  refine ⟨y13, y14, y15, some (roomD R0), ?_⟩
  have wl : walkL (cellsD C) = some (C.map cellD) := rfl
  unfold k17C14
  rw [s_sSeq, s_sFor, s_cWalk, s_cFn]
  simp only [s_cCons, s_cVs, s_cV0, s_cNil, obS, fc, wl]
  rw [e]
  simp only [obS]
  obtain ⟨o1, o2⟩ := hop
  rw [← lit_dot] at o1
  have hlp : (List.map pairPD (pairsL R0 w)).length = w * h * (w * h - 1) := by rw [List.length_map, hlen]
  have wh : w * h ≤ 36 := Nat.mul_le_mul w6 h6
  have wh1 : 1 ≤ w * h := Nat.mul_le_mul w1 h1
  have m1 : mulD (.int (w : Int)) (.int (h : Int)) = some (.int ((w * h : Nat) : Int)) := by
    rw [mul_ev (wim_of (k := 10) (by omega) (by omega)) (wim_of (k := 10) (by omega) (by omega))]
    congr 2
  generalize hv : w * h = v at *
  have m2 : mulD (.int (v : Int)) (.int ((v : Int) - 1)) = some (.int ((v * (v - 1) : Nat) : Int)) := by
    rw [mul_ev (wim_of (k := 10) (by omega) (by omega)) (wim_of (k := 10) (by omega) (by omega))]
    congr 2
    rw [Int.natCast_mul]
    congr 1
    omega
  unfold k17C15
  simp only [s_sSeq, s_sNil, s_sRet, s_sRetT, s_sIf, s_sAsg, s_sPar, s_sSetM, s_cND, s_cC, s_cB, s_cU, s_cTup, s_cLst, s_cNil, s_cCons, s_cCall, s_cFn, s_cIx, s_cAnd, s_cOr, s_cNot, s_cIf, s_cTr, s_cBT, s_cAndT, s_cOrT, s_cNotT, s_cCh, s_cChT, s_cSl, s_sFor, s_cWalk, s_cLc, s_lcOne, s_cTrue, s_sApp, s_gN, s_gT, s_gsNil, s_gsCons, s_cV0, s_cVs, s_finR, s_finN, s_boolD, s_truB, s_setAll0, s_setAll1, s_op1, s_op2, s_abs, s_addI, s_subI, eqI, neI, ltI, gtI, leI, geI, mkTup1, mkTup2, mkTup3, idx_t0, idx_t1, idx_t2, obS, omS, List.set_cons_zero, List.set_cons_succ, s_cNone, s_cPart, s_intD, s_cRng1, s_walkL, s_walkT, s_lenT, s_lenL, s_lenS, s_slT, s_slL, if_true, if_false, decide_true, decide_false, Bool.not_true, Bool.not_false, Bool.and_true, Bool.and_false, Bool.true_and, Bool.false_and, Bool.false_eq_true, decide_eq_true_eq, s_cEnum, s_sPut, s_revL, s_revT, s_listL, s_listT, s_tupleL, s_tupleT, s_isDicLst, s_isDicTup, s_isDicInt, wipeE_nil, wipeE_cons, lr, o1, o2]
  unfold k17C16
  simp only [s_sSeq, s_sNil, s_sRet, s_sRetT, s_sIf, s_sAsg, s_sPar, s_sSetM, s_cND, s_cC, s_cB, s_cU, s_cTup, s_cLst, s_cNil, s_cCons, s_cCall, s_cFn, s_cIx, s_cAnd, s_cOr, s_cNot, s_cIf, s_cTr, s_cBT, s_cAndT, s_cOrT, s_cNotT, s_cCh, s_cChT, s_cSl, s_sFor, s_cWalk, s_cLc, s_lcOne, s_cTrue, s_sApp, s_gN, s_gT, s_gsNil, s_gsCons, s_cV0, s_cVs, s_finR, s_finN, s_boolD, s_truB, s_setAll0, s_setAll1, s_op1, s_op2, s_abs, s_addI, s_subI, eqI, neI, ltI, gtI, leI, geI, mkTup1, mkTup2, mkTup3, idx_t0, idx_t1, idx_t2, obS, omS, List.set_cons_zero, List.set_cons_succ, s_cNone, s_cPart, s_intD, s_cRng1, s_walkL, s_walkT, s_lenT, s_lenL, s_lenS, s_slT, s_slL, if_true, if_false, decide_true, decide_false, Bool.not_true, Bool.not_false, Bool.and_true, Bool.and_false, Bool.true_and, Bool.false_and, Bool.false_eq_true, decide_eq_true_eq, s_cEnum, s_sPut, s_revL, s_revT, s_listL, s_listT, s_tupleL, s_tupleT, s_isDicLst, s_isDicTup, s_isDicInt, wipeE_nil, wipeE_cons, lr, m1, m2, fe, hlp]
end L
end
section
open PySem PySem.Spec PyProof.Rows L2 RE
namespace L
theorem t9_ev (F : Fn) {rs : List Str} {w : Nat} (hr : RoomOk rs w) {ds : List Nat} (hds : ds.length = 60)
    (fp : ∀ r, RoomOk r w → F "_law_pairs" [roomD r] = some (.lst ((pairsL r w).map pairPD)))
    (fg : ∀ c : Cel, c.1 < w → c.2 < rs.length → ∀ z, z = 46 ∨ z = 35 → F "_law_signed" [roomD rs, cellD c, .str (chS [z])] = some (roomD (setR rs c z)))
    (s a m du o x9 x10 x11 x12 x13 x14 x15 x16 x17 x18 x19 x20 x21 x22 x23 : Option D) : ∃ y9 y10 y11 y12, k17C9 F [s, a, some (.lst (ds.map natD)), some (roomD rs), some (.int (w : Int)), some (.lst ((pairsL rs w).map pairPD)), m, du, o, x9, x10, x11, x12, x13, x14, x15, x16, x17, x18, x19, x20, x21, x22, x23] = k17C14 F [s, a, some (.lst (ds.map natD)), some (roomD rs), some (.int (w : Int)), some (.lst ((pairsL rs w).map pairPD)), m, du, o, y9, y10, y11, y12, x13, x14, x15, x16, x17, x18, x19, x20, x21, x22, x23] := by
  have w1 := hr.w1
  have h1 := hr.h1
  have i50 : idxD (.lst (ds.map natD)) (.int 50) = some (natD ds[50]) := idx_nat (i := 50) (by omega)
  have i51 : idxD (.lst (ds.map natD)) (.int 51) = some (natD ds[51]) := idx_nat (i := 51) (by omega)
  have m50 := modN ds[50] w (by omega)
  have m51 := modN ds[51] rs.length (by omega)
  have l50 : ds[50] % w < w := Nat.mod_lt _ (by omega)
  have l51 : ds[51] % rs.length < rs.length := Nat.mod_lt _ (by omega)
  have lr : lenD (roomD rs) = some (.int (rs.length : Int)) := by unfold roomD; rw [s_lenT, List.length_map]
  generalize hc1 : ds[50] % w = c1 at *
  generalize hc2 : ds[51] % rs.length = c2 at *
  have ec : D.tup [natD c1, natD c2] = cellD (c1, c2) := rfl
  have g1 := fg (c1, c2) l50 l51 46 (.inl rfl)
  have g2 := fg (c1, c2) l50 l51 35 (.inr rfl)
  rw [← lit_dot] at g1
  rw [← lit_hash] at g2
  have ok1 := set_ok hr (c1, c2) (z := 46) (.inl rfl)
  have ok2 := set_ok hr (c1, c2) (z := 35) (.inr rfl)
  have p1 := fp _ ok1
  have p2 := fp _ ok2
  have sub1 := opened_sub hr (c := (c1, c2)) l50 l51
  have sub2 := shut_sub hr (c := (c1, c2)) l50 l51
  have bl1 := pairs_len hr
  have bl2 := pairs_len ok2
  have jn : ∃ t, joinD (Str.ofString "") (roomD (setR rs (c1, c2) 35)) = some (.str (chS t)) := by
    rw [lit_nil]
    exact ⟨_, join_tup (by have := ok2.h6; omega) (fun s hs => by rw [len_chs, ok2.len s hs]; have := ok2.w6; omega)⟩
  obtain ⟨t, jn⟩ := jn
  have it := in_str 46 (chS t)
  rw [← lit_dot] at it
  generalize setR rs (c1, c2) 46 = R1 at *
  generalize setR rs (c1, c2) 35 = R2 at *
  generalize pairsL rs w = P at *
  generalize pairsL R1 w = P1 at *
  generalize pairsL R2 w = P2 at *
  generalize roomD rs = R at *
  have mk0 : mkLst [] = some (.lst []) := rfl
  have ne0 : neD (.lst []) (.lst []) = some (.bl false) := rfl
  refine ⟨some (cellD (c1, c2)), some (roomD R1), some (roomD R2), some (.lst (P1.map pairPD)), ?_⟩
  unfold k17C9
  simp only [s_sSeq, s_sNil, s_sRet, s_sRetT, s_sIf, s_sAsg, s_sPar, s_sSetM, s_cND, s_cC, s_cB, s_cU, s_cTup, s_cLst, s_cNil, s_cCons, s_cCall, s_cFn, s_cIx, s_cAnd, s_cOr, s_cNot, s_cIf, s_cTr, s_cBT, s_cAndT, s_cOrT, s_cNotT, s_cCh, s_cChT, s_cSl, s_sFor, s_cWalk, s_cLc, s_lcOne, s_cTrue, s_sApp, s_gN, s_gT, s_gsNil, s_gsCons, s_cV0, s_cVs, s_finR, s_finN, s_boolD, s_truB, s_setAll0, s_setAll1, s_op1, s_op2, s_abs, s_addI, s_subI, eqI, neI, ltI, gtI, leI, geI, mkTup1, mkTup2, mkTup3, idx_t0, idx_t1, idx_t2, obS, omS, List.set_cons_zero, List.set_cons_succ, s_cNone, s_cPart, s_intD, s_cRng1, s_walkL, s_walkT, s_lenT, s_lenL, s_lenS, s_slT, s_slL, if_true, if_false, decide_true, decide_false, Bool.not_true, Bool.not_false, Bool.and_true, Bool.and_false, Bool.true_and, Bool.false_and, Bool.false_eq_true, decide_eq_true_eq, s_cEnum, s_sPut, s_revL, s_revT, s_listL, s_listT, s_tupleL, s_tupleT, s_isDicLst, s_isDicTup, s_isDicInt, wipeE_nil, wipeE_cons, i50, i51, m50, m51, lr, ec]
  unfold k17C10
  simp only [s_sSeq, s_sNil, s_sRet, s_sRetT, s_sIf, s_sAsg, s_sPar, s_sSetM, s_cND, s_cC, s_cB, s_cU, s_cTup, s_cLst, s_cNil, s_cCons, s_cCall, s_cFn, s_cIx, s_cAnd, s_cOr, s_cNot, s_cIf, s_cTr, s_cBT, s_cAndT, s_cOrT, s_cNotT, s_cCh, s_cChT, s_cSl, s_sFor, s_cWalk, s_cLc, s_lcOne, s_cTrue, s_sApp, s_gN, s_gT, s_gsNil, s_gsCons, s_cV0, s_cVs, s_finR, s_finN, s_boolD, s_truB, s_setAll0, s_setAll1, s_op1, s_op2, s_abs, s_addI, s_subI, eqI, neI, ltI, gtI, leI, geI, mkTup1, mkTup2, mkTup3, idx_t0, idx_t1, idx_t2, obS, omS, List.set_cons_zero, List.set_cons_succ, s_cNone, s_cPart, s_intD, s_cRng1, s_walkL, s_walkT, s_lenT, s_lenL, s_lenS, s_slT, s_slL, if_true, if_false, decide_true, decide_false, Bool.not_true, Bool.not_false, Bool.and_true, Bool.and_false, Bool.true_and, Bool.false_and, Bool.false_eq_true, decide_eq_true_eq, s_cEnum, s_sPut, s_revL, s_revT, s_listL, s_listT, s_tupleL, s_tupleT, s_isDicLst, s_isDicTup, s_isDicInt, wipeE_nil, wipeE_cons, g1, g2]
  unfold k17C11
  simp only [s_sSeq, s_sNil, s_sRet, s_sRetT, s_sIf, s_sAsg, s_sPar, s_sSetM, s_cND, s_cC, s_cB, s_cU, s_cTup, s_cLst, s_cNil, s_cCons, s_cCall, s_cFn, s_cIx, s_cAnd, s_cOr, s_cNot, s_cIf, s_cTr, s_cBT, s_cAndT, s_cOrT, s_cNotT, s_cCh, s_cChT, s_cSl, s_sFor, s_cWalk, s_cLc, s_lcOne, s_cTrue, s_sApp, s_gN, s_gT, s_gsNil, s_gsCons, s_cV0, s_cVs, s_finR, s_finN, s_boolD, s_truB, s_setAll0, s_setAll1, s_op1, s_op2, s_abs, s_addI, s_subI, eqI, neI, ltI, gtI, leI, geI, mkTup1, mkTup2, mkTup3, idx_t0, idx_t1, idx_t2, obS, omS, List.set_cons_zero, List.set_cons_succ, s_cNone, s_cPart, s_intD, s_cRng1, s_walkL, s_walkT, s_lenT, s_lenL, s_lenS, s_slT, s_slL, if_true, if_false, decide_true, decide_false, Bool.not_true, Bool.not_false, Bool.and_true, Bool.and_false, Bool.true_and, Bool.false_and, Bool.false_eq_true, decide_eq_true_eq, s_cEnum, s_sPut, s_revL, s_revT, s_listL, s_listT, s_tupleL, s_tupleT, s_isDicLst, s_isDicTup, s_isDicInt, wipeE_nil, wipeE_cons, p1]
  generalize hcell : cellD (c1, c2) = CD at *
  generalize hr1 : roomD R1 = RD1 at *
  generalize hr2 : roomD R2 = RD2 at *
  generalize hDS : D.lst (ds.map natD) = DS at *
  have lc1 : lcAll (lcOne (gN 23) (cBT notInD (cV 23) (cV 12)) (cV 23) F [s, a, some DS, some R, some (.int (w : Int)), some (.lst (P.map pairPD)), m, du, o, some CD, some RD1, some RD2, some (.lst (P1.map pairPD)), x13, x14, x15, x16, x17, x18, x19, x20, x21, x22, none]) (P.map pairPD) = some ((P.filter fun q => !decide (q ∈ P1)).map pairPD) := lc_filter fun q _ => by
    have := mem_pairD q P1
    simp only [s_sSeq, s_sNil, s_sRet, s_sRetT, s_sIf, s_sAsg, s_sPar, s_sSetM, s_cND, s_cC, s_cB, s_cU, s_cTup, s_cLst, s_cNil, s_cCons, s_cCall, s_cFn, s_cIx, s_cAnd, s_cOr, s_cNot, s_cIf, s_cTr, s_cBT, s_cAndT, s_cOrT, s_cNotT, s_cCh, s_cChT, s_cSl, s_sFor, s_cWalk, s_cLc, s_lcOne, s_cTrue, s_sApp, s_gN, s_gT, s_gsNil, s_gsCons, s_cV0, s_cVs, s_finR, s_finN, s_boolD, s_truB, s_setAll0, s_setAll1, s_op1, s_op2, s_abs, s_addI, s_subI, eqI, neI, ltI, gtI, leI, geI, mkTup1, mkTup2, mkTup3, idx_t0, idx_t1, idx_t2, obS, omS, List.set_cons_zero, List.set_cons_succ, s_cNone, s_cPart, s_intD, s_cRng1, s_walkL, s_walkT, s_lenT, s_lenL, s_lenS, s_slT, s_slL, if_true, if_false, decide_true, decide_false, Bool.not_true, Bool.not_false, Bool.and_true, Bool.and_false, Bool.true_and, Bool.false_and, Bool.false_eq_true, decide_eq_true_eq, s_cEnum, s_sPut, s_revL, s_revT, s_listL, s_listT, s_tupleL, s_tupleT, s_isDicLst, s_isDicTup, s_isDicInt, wipeE_nil, wipeE_cons, this]
    cases decide (q ∈ P1) <;> rfl
  rw [filter_nil sub1] at lc1
  have e12 : k17C12 F [s, a, some DS, some R, some (.int (w : Int)), some (.lst (P.map pairPD)), m, du, o, some CD, some RD1, some RD2, some (.lst (P1.map pairPD)), x13, x14, x15, x16, x17, x18, x19, x20, x21, x22, x23] = k17C13 F [s, a, some DS, some R, some (.int (w : Int)), some (.lst (P.map pairPD)), m, du, o, some CD, some RD1, some RD2, some (.lst (P1.map pairPD)), x13, x14, x15, x16, x17, x18, x19, x20, x21, x22, x23] := by
    unfold k17C12
    rw [s_sSeq, s_sIf, s_cBT, s_cLc]
    simp only [s_cWalk, s_cVs, s_cV0, obS, s_walkL, wipeE_cons, wipeE_nil, List.set_cons_succ, List.set_cons_zero]
    rw [lc1]
    simp only [List.map_nil, obS, mk0, s_cLst, s_cNil, ne0, s_boolD, Bool.false_eq_true, if_false, s_sNil]
  rw [e12]
  have lc2 : lcAll (lcOne (gN 23) (cBT notInD (cV 23) (cV 5)) (cV 23) F [s, a, some DS, some R, some (.int (w : Int)), some (.lst (P.map pairPD)), m, du, o, some CD, some RD1, some RD2, some (.lst (P1.map pairPD)), x13, x14, x15, x16, x17, x18, x19, x20, x21, x22, none]) (P2.map pairPD) = some ((P2.filter fun q => !decide (q ∈ P)).map pairPD) := lc_filter fun q _ => by
    have := mem_pairD q P
    simp only [s_sSeq, s_sNil, s_sRet, s_sRetT, s_sIf, s_sAsg, s_sPar, s_sSetM, s_cND, s_cC, s_cB, s_cU, s_cTup, s_cLst, s_cNil, s_cCons, s_cCall, s_cFn, s_cIx, s_cAnd, s_cOr, s_cNot, s_cIf, s_cTr, s_cBT, s_cAndT, s_cOrT, s_cNotT, s_cCh, s_cChT, s_cSl, s_sFor, s_cWalk, s_cLc, s_lcOne, s_cTrue, s_sApp, s_gN, s_gT, s_gsNil, s_gsCons, s_cV0, s_cVs, s_finR, s_finN, s_boolD, s_truB, s_setAll0, s_setAll1, s_op1, s_op2, s_abs, s_addI, s_subI, eqI, neI, ltI, gtI, leI, geI, mkTup1, mkTup2, mkTup3, idx_t0, idx_t1, idx_t2, obS, omS, List.set_cons_zero, List.set_cons_succ, s_cNone, s_cPart, s_intD, s_cRng1, s_walkL, s_walkT, s_lenT, s_lenL, s_lenS, s_slT, s_slL, if_true, if_false, decide_true, decide_false, Bool.not_true, Bool.not_false, Bool.and_true, Bool.and_false, Bool.true_and, Bool.false_and, Bool.false_eq_true, decide_eq_true_eq, s_cEnum, s_sPut, s_revL, s_revT, s_listL, s_listT, s_tupleL, s_tupleT, s_isDicLst, s_isDicTup, s_isDicInt, wipeE_nil, wipeE_cons, this]
    cases decide (q ∈ P) <;> rfl
  rw [filter_nil sub2] at lc2
  unfold k17C13
  generalize decide (46 ∈ chs (chS t)) = b at it
  rw [s_sSeq, s_sIf, s_cAndT, s_cBT, s_cBT, s_cLc, s_cC, s_cU]
  simp only [s_cVs, s_cV0, obS, jn, it, s_boolD]
  cases b
  · simp only [Bool.false_eq_true, if_false, obS, s_sNil]
  · simp only [if_true, s_cWalk, s_cFn, s_cCons, s_cNil, s_cVs, s_cV0, obS, p2, s_walkL, wipeE_cons, wipeE_nil, List.set_cons_succ, List.set_cons_zero]
    rw [lc2]
    simp only [List.map_nil, obS, mk0, s_cLst, s_cNil, ne0, s_boolD, Bool.false_eq_true, if_false, s_sNil]
end L
end
section
open PySem PySem.Spec PyProof.Rows L2 RE
namespace L
theorem head_ev (F : Fn) {rs : List Str} {w : Nat} (hr : RoomOk rs w)
    (fp : ∀ r v, RoomOk r v → F "_law_pairs" [roomD r] = some (.lst ((pairsL r v).map pairPD)))
    (s a d x4 x5 x6 x7 x8 x9 x10 x11 x12 x13 x14 x15 x16 x17 x18 x19 x20 x21 x22 x23 : Option D) : ∃ y6 y7 y8, k17C2 F [s, a, d, some (roomD rs), x4, x5, x6, x7, x8, x9, x10, x11, x12, x13, x14, x15, x16, x17, x18, x19, x20, x21, x22, x23] = k17C9 F [s, a, d, some (roomD rs), some (.int (w : Int)), some (.lst ((pairsL rs w).map pairPD)), y6, y7, y8, x9, x10, x11, x12, x13, x14, x15, x16, x17, x18, x19, x20, x21, x22, x23] := by
  have h0 : 0 < rs.length := hr.h1
  have w6 := hr.w6
  have h6 := hr.h6
  obtain ⟨i0, lw, ls⟩ := hr.row h0
  have i0 : idxD (roomD rs) (.int 0) = some (.str rs[0]) := i0
  have lenw : lenD (.str rs[0]) = some (.int (w : Int)) := by rw [len_str ls, len_chs, lw]
  have bl := pairs_len hr
  have q1 := fp rs w hr
  have q2 := fp (mirR rs) w (mir_ok hr)
  have q3 := fp (ovR rs w) rs.length (ov_ok hr)
  have sw := swap_pairs rs w (by omega)
  have sm := mir_pairs hr (by omega)
  have so := ov_pairs (rs := rs) (w := w) (by omega)
  have nw := ne_pairs (pairsL rs w)
  have nm := ne_pairs (pairsL (mirR rs) w)
  have no := ne_pairs (pairsL (ovR rs w) rs.length)
  have inw : ∀ b ∈ pairsL rs w, b.1.1 < w ∧ b.2.1 < w := fun b hb => ⟨sign_lt (mem_pairs.mp hb).1, sign_lt (mem_pairs.mp hb).2.1⟩
  have fits6 : ∀ t ∈ rs, fits t.length = true := fun t ht => fits_of (by rw [len_chs, hr.len t ht]; omega)
  have wr : walkL (roomD rs) = some (rs.map .str) := rfl
  refine ⟨some (roomD (mirR rs)), some (.lst ((pairsL (mirR rs) w).map pairPD)), some (roomD (ovR rs w)), ?_⟩
  -- the first look
  have e2 : k17C2 F [s, a, d, some (roomD rs), x4, x5, x6, x7, x8, x9, x10, x11, x12, x13, x14, x15, x16, x17, x18, x19, x20, x21, x22, x23] = k17C3 F [s, a, d, some (roomD rs), some (.int (w : Int)), some (.lst ((pairsL rs w).map pairPD)), x6, x7, x8, x9, x10, x11, x12, x13, x14, x15, x16, x17, x18, x19, x20, x21, x22, x23] := by
    generalize D.lst ((pairsL rs w).map pairPD) = PD at *
    unfold k17C2
    simp only [s_sSeq, s_sNil, s_sRet, s_sRetT, s_sIf, s_sAsg, s_sPar, s_sSetM, s_cND, s_cC, s_cB, s_cU, s_cTup, s_cLst, s_cNil, s_cCons, s_cCall, s_cFn, s_cIx, s_cAnd, s_cOr, s_cNot, s_cIf, s_cTr, s_cBT, s_cAndT, s_cOrT, s_cNotT, s_cCh, s_cChT, s_cSl, s_sFor, s_cWalk, s_cLc, s_lcOne, s_cTrue, s_sApp, s_gN, s_gT, s_gsNil, s_gsCons, s_cV0, s_cVs, s_finR, s_finN, s_boolD, s_truB, s_setAll0, s_setAll1, s_op1, s_op2, s_abs, s_addI, s_subI, eqI, neI, ltI, gtI, leI, geI, mkTup1, mkTup2, mkTup3, idx_t0, idx_t1, idx_t2, obS, omS, List.set_cons_zero, List.set_cons_succ, s_cNone, s_cPart, s_intD, s_cRng1, s_walkL, s_walkT, s_lenT, s_lenL, s_lenS, s_slT, s_slL, if_true, if_false, decide_true, decide_false, Bool.not_true, Bool.not_false, Bool.and_true, Bool.and_false, Bool.true_and, Bool.false_and, Bool.false_eq_true, decide_eq_true_eq, s_cEnum, s_sPut, s_revL, s_revT, s_listL, s_listT, s_tupleL, s_tupleT, s_isDicLst, s_isDicTup, s_isDicInt, wipeE_nil, wipeE_cons, i0, lenw, q1]
  rw [e2]
  have lc3 : lcAll (lcOne (gT (gsCons (gN 17) (gsCons (gN 15) (gsNil)))) cTrue (cTup (cCons (cV 15) (cCons (cV 17) (cNil)))) F [s, a, d, some (roomD rs), some (.int (w : Int)), some (.lst ((pairsL rs w).map pairPD)), x6, x7, x8, x9, x10, x11, x12, x13, x14, none, x16, none, x18, x19, x20, x21, x22, x23]) ((pairsL rs w).map pairPD) = some ((pairsL rs w).map fun b => pairPD (swQ b)) := lc_map fun b _ => by
    have ga : gT (gsCons (gN 17) (gsCons (gN 15) gsNil)) (pairPD b) [s, a, d, some (roomD rs), some (.int (w : Int)), some (.lst ((pairsL rs w).map pairPD)), x6, x7, x8, x9, x10, x11, x12, x13, x14, none, x16, none, x18, x19, x20, x21, x22, x23] = some [s, a, d, some (roomD rs), some (.int (w : Int)), some (.lst ((pairsL rs w).map pairPD)), x6, x7, x8, x9, x10, x11, x12, x13, x14, some (cellD b.2), x16, some (cellD b.1), x18, x19, x20, x21, x22, x23] := rfl
    rw [s_lcOne, ga]
    generalize D.lst ((pairsL rs w).map pairPD) = PD at *
    simp only [s_sSeq, s_sNil, s_sRet, s_sRetT, s_sIf, s_sAsg, s_sPar, s_sSetM, s_cND, s_cC, s_cB, s_cU, s_cTup, s_cLst, s_cNil, s_cCons, s_cCall, s_cFn, s_cIx, s_cAnd, s_cOr, s_cNot, s_cIf, s_cTr, s_cBT, s_cAndT, s_cOrT, s_cNotT, s_cCh, s_cChT, s_cSl, s_sFor, s_cWalk, s_cLc, s_lcOne, s_cTrue, s_sApp, s_gN, s_gT, s_gsNil, s_gsCons, s_cV0, s_cVs, s_finR, s_finN, s_boolD, s_truB, s_setAll0, s_setAll1, s_op1, s_op2, s_abs, s_addI, s_subI, eqI, neI, ltI, gtI, leI, geI, mkTup1, mkTup2, mkTup3, idx_t0, idx_t1, idx_t2, obS, omS, List.set_cons_zero, List.set_cons_succ, s_cNone, s_cPart, s_intD, s_cRng1, s_walkL, s_walkT, s_lenT, s_lenL, s_lenS, s_slT, s_slL, if_true, if_false, decide_true, decide_false, Bool.not_true, Bool.not_false, Bool.and_true, Bool.and_false, Bool.true_and, Bool.false_and, Bool.false_eq_true, decide_eq_true_eq, s_cEnum, s_sPut, s_revL, s_revT, s_listL, s_listT, s_tupleL, s_tupleT, s_isDicLst, s_isDicTup, s_isDicInt, wipeE_nil, wipeE_cons]
    rfl
  have mk3 : mkLst ((pairsL rs w).map fun b => pairPD (swQ b)) = some (.lst (((pairsL rs w).map swQ).map pairPD)) := by
    rw [mkLst_ev (by rw [List.length_map]; omega), List.map_map]; rfl
  have e3 : k17C3 F [s, a, d, some (roomD rs), some (.int (w : Int)), some (.lst ((pairsL rs w).map pairPD)), x6, x7, x8, x9, x10, x11, x12, x13, x14, x15, x16, x17, x18, x19, x20, x21, x22, x23] = k17C4 F [s, a, d, some (roomD rs), some (.int (w : Int)), some (.lst ((pairsL rs w).map pairPD)), x6, x7, x8, x9, x10, x11, x12, x13, x14, x15, x16, x17, x18, x19, x20, x21, x22, x23] := by
    unfold k17C3
    rw [s_sSeq, s_sIf, s_cBT, s_cCall, s_cCons, s_cLc]
    simp only [s_cWalk, s_cVs, s_cV0, obS, s_walkL, wipeE_cons, wipeE_nil, List.set_cons_succ, List.set_cons_zero]
    rw [lc3]
    simp only [obS, mk3, s_cNil, s_op1, sw, nw, s_boolD, Bool.false_eq_true, if_false, s_sNil]
  rw [e3]
  -- mirrored
  have lc4 : lcAll (lcOne (gN 18) cTrue (cU revD (cV 18)) F [s, a, d, some (roomD rs), some (.int (w : Int)), some (.lst ((pairsL rs w).map pairPD)), x6, x7, x8, x9, x10, x11, x12, x13, x14, x15, x16, x17, none, x19, x20, x21, x22, x23]) (rs.map .str) = some (rs.map fun t => .str (revS t)) := lc_map fun t ht => by
    have : revD (.str t) = some (.str (revS t)) := by
      show (if fits t.length then some (D.str (revS t)) else none) = _
      rw [fits6 t ht]; rfl
    generalize D.lst ((pairsL rs w).map pairPD) = PD at *
    simp only [s_sSeq, s_sNil, s_sRet, s_sRetT, s_sIf, s_sAsg, s_sPar, s_sSetM, s_cND, s_cC, s_cB, s_cU, s_cTup, s_cLst, s_cNil, s_cCons, s_cCall, s_cFn, s_cIx, s_cAnd, s_cOr, s_cNot, s_cIf, s_cTr, s_cBT, s_cAndT, s_cOrT, s_cNotT, s_cCh, s_cChT, s_cSl, s_sFor, s_cWalk, s_cLc, s_lcOne, s_cTrue, s_sApp, s_gN, s_gT, s_gsNil, s_gsCons, s_cV0, s_cVs, s_finR, s_finN, s_boolD, s_truB, s_setAll0, s_setAll1, s_op1, s_op2, s_abs, s_addI, s_subI, eqI, neI, ltI, gtI, leI, geI, mkTup1, mkTup2, mkTup3, idx_t0, idx_t1, idx_t2, obS, omS, List.set_cons_zero, List.set_cons_succ, s_cNone, s_cPart, s_intD, s_cRng1, s_walkL, s_walkT, s_lenT, s_lenL, s_lenS, s_slT, s_slL, if_true, if_false, decide_true, decide_false, Bool.not_true, Bool.not_false, Bool.and_true, Bool.and_false, Bool.true_and, Bool.false_and, Bool.false_eq_true, decide_eq_true_eq, s_cEnum, s_sPut, s_revL, s_revT, s_listL, s_listT, s_tupleL, s_tupleT, s_isDicLst, s_isDicTup, s_isDicInt, wipeE_nil, wipeE_cons, this]
  have mk4 := mkLst_ev (ds := rs.map fun t => D.str (revS t)) (by rw [List.length_map]; omega)
  have e4 : k17C4 F [s, a, d, some (roomD rs), some (.int (w : Int)), some (.lst ((pairsL rs w).map pairPD)), x6, x7, x8, x9, x10, x11, x12, x13, x14, x15, x16, x17, x18, x19, x20, x21, x22, x23] = k17C5 F [s, a, d, some (roomD rs), some (.int (w : Int)), some (.lst ((pairsL rs w).map pairPD)), some (roomD (mirR rs)), x7, x8, x9, x10, x11, x12, x13, x14, x15, x16, x17, x18, x19, x20, x21, x22, x23] := by
    have er : D.tup (rs.map fun t => D.str (revS t)) = roomD (mirR rs) := by
      unfold roomD mirR
      rw [List.map_map]; rfl
    unfold k17C4
    rw [s_sSeq, s_sAsg, s_cCall, s_cCons, s_cLc]
    simp only [s_cWalk, s_cVs, s_cV0, obS, wr, wipeE_cons, wipeE_nil, List.set_cons_succ, List.set_cons_zero]
    rw [lc4]
    simp only [obS, mk4, s_cNil, s_op1, s_tupleL, er, s_gN, omS, List.set_cons_succ, List.set_cons_zero]
  rw [e4]
  have lc5 : lcAll (lcOne (gT (gsCons (gT (gsCons (gN 19) (gsCons (gN 20) (gsNil)))) (gsCons (gT (gsCons (gN 21) (gsCons (gN 22) (gsNil)))) (gsNil)))) (cTrue) (cTup (cCons (cTup (cCons (cB subD (cB subD (cV 4) (cC (.int 1))) (cV 19)) (cCons (cV 20) (cNil)))) (cCons (cTup (cCons (cB subD (cB subD (cV 4) (cC (.int 1))) (cV 21)) (cCons (cV 22) (cNil)))) (cNil)))) F [s, a, d, some (roomD rs), some (.int (w : Int)), some (.lst ((pairsL rs w).map pairPD)), some (roomD (mirR rs)), x7, x8, x9, x10, x11, x12, x13, x14, x15, x16, x17, x18, none, none, none, none, x23]) ((pairsL rs w).map pairPD) = some ((pairsL rs w).map fun b => pairPD (mirQ w b)) := lc_map fun b hb => by
    obtain ⟨b1, b2⟩ := inw b hb
    have sb1 : subD (.int ((w : Int) - 1)) (natD b.1.1) = some (natD (w - 1 - b.1.1)) := by
      show some (D.int ((w : Int) - 1 - (b.1.1 : Int))) = some (D.int ((w - 1 - b.1.1 : Nat) : Int))
      congr 2; omega
    have sb2 : subD (.int ((w : Int) - 1)) (natD b.2.1) = some (natD (w - 1 - b.2.1)) := by
      show some (D.int ((w : Int) - 1 - (b.2.1 : Int))) = some (D.int ((w - 1 - b.2.1 : Nat) : Int))
      congr 2; omega
    generalize D.lst ((pairsL rs w).map pairPD) = PD at *
    have ga : gT (gsCons (gT (gsCons (gN 19) (gsCons (gN 20) (gsNil)))) (gsCons (gT (gsCons (gN 21) (gsCons (gN 22) (gsNil)))) (gsNil))) (pairPD b) [s, a, d, some (roomD rs), some (.int (w : Int)), some PD, some (roomD (mirR rs)), x7, x8, x9, x10, x11, x12, x13, x14, x15, x16, x17, x18, none, none, none, none, x23] = some [s, a, d, some (roomD rs), some (.int (w : Int)), some PD, some (roomD (mirR rs)), x7, x8, x9, x10, x11, x12, x13, x14, x15, x16, x17, x18, some (natD b.1.1), some (natD b.1.2), some (natD b.2.1), some (natD b.2.2), x23] := rfl
    rw [s_lcOne, ga]
    simp only [s_sSeq, s_sNil, s_sRet, s_sRetT, s_sIf, s_sAsg, s_sPar, s_sSetM, s_cND, s_cC, s_cB, s_cU, s_cTup, s_cLst, s_cNil, s_cCons, s_cCall, s_cFn, s_cIx, s_cAnd, s_cOr, s_cNot, s_cIf, s_cTr, s_cBT, s_cAndT, s_cOrT, s_cNotT, s_cCh, s_cChT, s_cSl, s_sFor, s_cWalk, s_cLc, s_lcOne, s_cTrue, s_sApp, s_gN, s_gT, s_gsNil, s_gsCons, s_cV0, s_cVs, s_finR, s_finN, s_boolD, s_truB, s_setAll0, s_setAll1, s_op1, s_op2, s_abs, s_addI, s_subI, eqI, neI, ltI, gtI, leI, geI, mkTup1, mkTup2, mkTup3, idx_t0, idx_t1, idx_t2, obS, omS, List.set_cons_zero, List.set_cons_succ, s_cNone, s_cPart, s_intD, s_cRng1, s_walkL, s_walkT, s_lenT, s_lenL, s_lenS, s_slT, s_slL, if_true, if_false, decide_true, decide_false, Bool.not_true, Bool.not_false, Bool.and_true, Bool.and_false, Bool.true_and, Bool.false_and, Bool.false_eq_true, decide_eq_true_eq, s_cEnum, s_sPut, s_revL, s_revT, s_listL, s_listT, s_tupleL, s_tupleT, s_isDicLst, s_isDicTup, s_isDicInt, wipeE_nil, wipeE_cons, sb1, sb2]
    rfl
  have mk5 : mkLst ((pairsL rs w).map fun b => pairPD (mirQ w b)) = some (.lst (((pairsL rs w).map (mirQ w)).map pairPD)) := by
    rw [mkLst_ev (by rw [List.length_map]; omega), List.map_map]; rfl
  have e5 : k17C5 F [s, a, d, some (roomD rs), some (.int (w : Int)), some (.lst ((pairsL rs w).map pairPD)), some (roomD (mirR rs)), x7, x8, x9, x10, x11, x12, x13, x14, x15, x16, x17, x18, x19, x20, x21, x22, x23] = k17C7 F [s, a, d, some (roomD rs), some (.int (w : Int)), some (.lst ((pairsL rs w).map pairPD)), some (roomD (mirR rs)), some (.lst ((pairsL (mirR rs) w).map pairPD)), x8, x9, x10, x11, x12, x13, x14, x15, x16, x17, x18, x19, x20, x21, x22, x23] := by
    unfold k17C5
    rw [s_sSeq, s_sAsg, s_cCall, s_cCons, s_cLc]
    simp only [s_cWalk, s_cVs, s_cV0, obS, s_walkL, wipeE_cons, wipeE_nil, List.set_cons_succ, List.set_cons_zero]
    rw [lc5]
    simp only [obS, mk5, s_cNil, s_op1, sm, s_gN, omS, List.set_cons_succ, List.set_cons_zero]
    generalize D.lst ((pairsL rs w).map pairPD) = PD at *
    unfold k17C6
    simp only [s_sSeq, s_sNil, s_sRet, s_sRetT, s_sIf, s_sAsg, s_sPar, s_sSetM, s_cND, s_cC, s_cB, s_cU, s_cTup, s_cLst, s_cNil, s_cCons, s_cCall, s_cFn, s_cIx, s_cAnd, s_cOr, s_cNot, s_cIf, s_cTr, s_cBT, s_cAndT, s_cOrT, s_cNotT, s_cCh, s_cChT, s_cSl, s_sFor, s_cWalk, s_cLc, s_lcOne, s_cTrue, s_sApp, s_gN, s_gT, s_gsNil, s_gsCons, s_cV0, s_cVs, s_finR, s_finN, s_boolD, s_truB, s_setAll0, s_setAll1, s_op1, s_op2, s_abs, s_addI, s_subI, eqI, neI, ltI, gtI, leI, geI, mkTup1, mkTup2, mkTup3, idx_t0, idx_t1, idx_t2, obS, omS, List.set_cons_zero, List.set_cons_succ, s_cNone, s_cPart, s_intD, s_cRng1, s_walkL, s_walkT, s_lenT, s_lenL, s_lenS, s_slT, s_slL, if_true, if_false, decide_true, decide_false, Bool.not_true, Bool.not_false, Bool.and_true, Bool.and_false, Bool.true_and, Bool.false_and, Bool.false_eq_true, decide_eq_true_eq, s_cEnum, s_sPut, s_revL, s_revT, s_listL, s_listT, s_tupleL, s_tupleT, s_isDicLst, s_isDicTup, s_isDicInt, wipeE_nil, wipeE_cons, q2, nm]
  rw [e5]
  -- turned over
  have lc7 : lcAll (lcOne (gN 13) (cTrue) (cU (joinD "") (cLc [18] (cWalk (cV 3)) (gN 18) (cTrue) (cIx (cV 18) (cV 13)))) F [s, a, d, some (roomD rs), some (.int (w : Int)), some (.lst ((pairsL rs w).map pairPD)), some (roomD (mirR rs)), some (.lst ((pairsL (mirR rs) w).map pairPD)), x8, x9, x10, x11, x12, none, x14, x15, x16, x17, x18, x19, x20, x21, x22, x23]) ((List.range w).map natD) = some ((List.range w).map fun x => .str (chS ((List.range rs.length).map fun y => at_ rs x y))) := lc_map fun x hx => by
    have hx := List.mem_range.mp hx
    have lcj : lcAll (lcOne (gN 18) cTrue (cIx (cV 18) (cV 13)) F [s, a, d, some (roomD rs), some (.int (w : Int)), some (.lst ((pairsL rs w).map pairPD)), some (roomD (mirR rs)), some (.lst ((pairsL (mirR rs) w).map pairPD)), x8, x9, x10, x11, x12, some (natD x), x14, x15, x16, x17, none, x19, x20, x21, x22, x23]) (rs.map .str) = some (((List.range rs.length).map fun y => at_ rs x y).map fun c => .str (chS [c])) := by
      have e : rs.map D.str = (List.range rs.length).map fun y => D.str (rs.getD y (chS [])) := by
        refine List.ext_getElem (by simp) fun i h1 h2 => ?_
        have hi : i < rs.length := by simpa using h1
        simp [List.getD, hi]
      rw [e, List.map_map]
      refine lc_map fun y hy => ?_
      have hy := List.mem_range.mp hy
      have at' := hr.at hx hy
      have e2 : rs.getD y (chS []) = rs[y] := by simp [List.getD, hy]
      rw [e2]
      generalize D.lst ((pairsL rs w).map pairPD) = PD at *
      generalize D.lst ((pairsL (mirR rs) w).map pairPD) = PM at *
      simp only [s_sSeq, s_sNil, s_sRet, s_sRetT, s_sIf, s_sAsg, s_sPar, s_sSetM, s_cND, s_cC, s_cB, s_cU, s_cTup, s_cLst, s_cNil, s_cCons, s_cCall, s_cFn, s_cIx, s_cAnd, s_cOr, s_cNot, s_cIf, s_cTr, s_cBT, s_cAndT, s_cOrT, s_cNotT, s_cCh, s_cChT, s_cSl, s_sFor, s_cWalk, s_cLc, s_lcOne, s_cTrue, s_sApp, s_gN, s_gT, s_gsNil, s_gsCons, s_cV0, s_cVs, s_finR, s_finN, s_boolD, s_truB, s_setAll0, s_setAll1, s_op1, s_op2, s_abs, s_addI, s_subI, eqI, neI, ltI, gtI, leI, geI, mkTup1, mkTup2, mkTup3, idx_t0, idx_t1, idx_t2, obS, omS, List.set_cons_zero, List.set_cons_succ, s_cNone, s_cPart, s_intD, s_cRng1, s_walkL, s_walkT, s_lenT, s_lenL, s_lenS, s_slT, s_slL, if_true, if_false, decide_true, decide_false, Bool.not_true, Bool.not_false, Bool.and_true, Bool.and_false, Bool.true_and, Bool.false_and, Bool.false_eq_true, decide_eq_true_eq, s_cEnum, s_sPut, s_revL, s_revT, s_listL, s_listT, s_tupleL, s_tupleT, s_isDicLst, s_isDicTup, s_isDicInt, wipeE_nil, wipeE_cons, at']
      rfl
    have mkj : mkLst (((List.range rs.length).map fun y => at_ rs x y).map fun c => .str (chS [c])) = some (.lst (((List.range rs.length).map fun y => at_ rs x y).map fun c => .str (chS [c]))) := mkLst_ev (by rw [List.length_map, List.length_map, List.length_range]; omega)
    have jc : joinD (Str.ofString "") (.lst (((List.range rs.length).map fun y => at_ rs x y).map fun c => .str (chS [c]))) = some (.str (chS ((List.range rs.length).map fun y => at_ rs x y))) := by
      rw [lit_nil]
      exact join_chars (by rw [List.length_map, List.length_range]; omega)
    rw [s_lcOne, s_gN, obS]
    simp only [List.set_cons_succ, List.set_cons_zero, s_cTrue, obS, if_true]
    rw [s_cU, s_cLc]
    simp only [s_cWalk, s_cVs, s_cV0, obS, wr, wipeE_cons, wipeE_nil, List.set_cons_succ, List.set_cons_zero]
    rw [lcj, obS, mkj, obS]
    exact congrArg (fun o => Option.map (fun y => [y]) o) jc
  have mk7 : mkLst ((List.range w).map fun x => D.str (chS ((List.range rs.length).map fun y => at_ rs x y))) = some (.lst ((ovR rs w).map .str)) := by
    rw [mkLst_ev (by rw [List.length_map, List.length_range]; omega)]
    unfold ovR
    rw [List.map_map]; rfl
  have r7 : rng1D (.int (w : Int)) = some ((List.range w).map natD) := rng1_ev (by omega)
  have e7 : k17C7 F [s, a, d, some (roomD rs), some (.int (w : Int)), some (.lst ((pairsL rs w).map pairPD)), some (roomD (mirR rs)), some (.lst ((pairsL (mirR rs) w).map pairPD)), x8, x9, x10, x11, x12, x13, x14, x15, x16, x17, x18, x19, x20, x21, x22, x23] = k17C8 F [s, a, d, some (roomD rs), some (.int (w : Int)), some (.lst ((pairsL rs w).map pairPD)), some (roomD (mirR rs)), some (.lst ((pairsL (mirR rs) w).map pairPD)), some (roomD (ovR rs w)), x9, x10, x11, x12, x13, x14, x15, x16, x17, x18, x19, x20, x21, x22, x23] := by
    unfold k17C7
    rw [s_sSeq, s_sAsg, s_cCall, s_cCons, s_cLc]
    simp only [s_cRng1, s_cVs, s_cV0, obS, r7, wipeE_cons, wipeE_nil, List.set_cons_succ, List.set_cons_zero]
    rw [lc7]
    simp only [obS, mk7, s_cNil, s_op1, s_tupleL, s_gN, omS, List.set_cons_succ, List.set_cons_zero]
    rfl
  rw [e7]
  have lc8 : lcAll (lcOne (gT (gsCons (gN 17) (gsCons (gN 15) (gsNil)))) cTrue (cTup (cCons (cU revD (cV 17)) (cCons (cU revD (cV 15)) (cNil)))) F [s, a, d, some (roomD rs), some (.int (w : Int)), some (.lst ((pairsL rs w).map pairPD)), some (roomD (mirR rs)), some (.lst ((pairsL (mirR rs) w).map pairPD)), some (roomD (ovR rs w)), x9, x10, x11, x12, x13, x14, none, x16, none, x18, x19, x20, x21, x22, x23]) ((pairsL rs w).map pairPD) = some ((pairsL rs w).map fun b => pairPD (ovQ b)) := lc_map fun b _ => by
    generalize D.lst ((pairsL rs w).map pairPD) = PD at *
    generalize D.lst ((pairsL (mirR rs) w).map pairPD) = PM at *
    have ga : gT (gsCons (gN 17) (gsCons (gN 15) gsNil)) (pairPD b) [s, a, d, some (roomD rs), some (.int (w : Int)), some PD, some (roomD (mirR rs)), some PM, some (roomD (ovR rs w)), x9, x10, x11, x12, x13, x14, none, x16, none, x18, x19, x20, x21, x22, x23] = some [s, a, d, some (roomD rs), some (.int (w : Int)), some PD, some (roomD (mirR rs)), some PM, some (roomD (ovR rs w)), x9, x10, x11, x12, x13, x14, some (cellD b.2), x16, some (cellD b.1), x18, x19, x20, x21, x22, x23] := rfl
    have rv : ∀ p : Cel, revD (cellD p) = some (cellD (swC p)) := fun p => rfl
    rw [s_lcOne, ga]
    simp only [s_sSeq, s_sNil, s_sRet, s_sRetT, s_sIf, s_sAsg, s_sPar, s_sSetM, s_cND, s_cC, s_cB, s_cU, s_cTup, s_cLst, s_cNil, s_cCons, s_cCall, s_cFn, s_cIx, s_cAnd, s_cOr, s_cNot, s_cIf, s_cTr, s_cBT, s_cAndT, s_cOrT, s_cNotT, s_cCh, s_cChT, s_cSl, s_sFor, s_cWalk, s_cLc, s_lcOne, s_cTrue, s_sApp, s_gN, s_gT, s_gsNil, s_gsCons, s_cV0, s_cVs, s_finR, s_finN, s_boolD, s_truB, s_setAll0, s_setAll1, s_op1, s_op2, s_abs, s_addI, s_subI, eqI, neI, ltI, gtI, leI, geI, mkTup1, mkTup2, mkTup3, idx_t0, idx_t1, idx_t2, obS, omS, List.set_cons_zero, List.set_cons_succ, s_cNone, s_cPart, s_intD, s_cRng1, s_walkL, s_walkT, s_lenT, s_lenL, s_lenS, s_slT, s_slL, if_true, if_false, decide_true, decide_false, Bool.not_true, Bool.not_false, Bool.and_true, Bool.and_false, Bool.true_and, Bool.false_and, Bool.false_eq_true, decide_eq_true_eq, s_cEnum, s_sPut, s_revL, s_revT, s_listL, s_listT, s_tupleL, s_tupleT, s_isDicLst, s_isDicTup, s_isDicInt, wipeE_nil, wipeE_cons, rv]
    rfl
  have mk8 : mkLst ((pairsL rs w).map fun b => pairPD (ovQ b)) = some (.lst (((pairsL rs w).map ovQ).map pairPD)) := by
    rw [mkLst_ev (by rw [List.length_map]; omega), List.map_map]; rfl
  unfold k17C8
  rw [s_sSeq, s_sIf, s_cBT, s_cFn, s_cCall, s_cCons, s_cCons, s_cLc]
  simp only [s_cWalk, s_cVs, s_cV0, s_cNil, obS, s_walkL, wipeE_cons, wipeE_nil, List.set_cons_succ, List.set_cons_zero, q3]
  rw [lc8]
  simp only [obS, mk8, s_op1, so, no, s_boolD, Bool.false_eq_true, if_false, s_sNil]
theorem outer_ev (n : Nat) (ns : List Int) (hn : ns.length ≤ 63) (a' : Nat) (ha : a' ≤ 100) (x2 x3 x4 x5 x6 x7 x8 x9 x10 x11 x12 x13 x14 x15 x16 x17 x18 x19 x20 x21 x22 x23 : Option D) : ∃ ρ', k17C0 (lvl (DT rows) (n + 5)) [some (.scr ns), some (natD a'), x2, x3, x4, x5, x6, x7, x8, x9, x10, x11, x12, x13, x14, x15, x16, x17, x18, x19, x20, x21, x22, x23] = some (.nx ρ') ∧ ∃ y1 y2 y3 y4 y5 y6 y7 y8 y9 y10 y11 y12 y13 y14 y15 y16 y17 y18 y19 y20 y21 y22 y23, ρ' = [some (.scr ns), y1, y2, y3, y4, y5, y6, y7, y8, y9, y10, y11, y12, y13, y14, y15, y16, y17, y18, y19, y20, y21, y22, y23] := by
  obtain ⟨out, h1, h2, h3⟩ := draws_ev (n + 3) ns a' 60 27720 hn (by omega) (by omega) (by omega) (by omega)
  rw [nats_of fun x hx => (h2 x hx).1] at h3
  have hds : (out.map Int.toNat).length = 60 := by rw [List.length_map]; exact h1
  generalize out.map Int.toNat = ds at *
  obtain ⟨rs, w, hr, _, h4⟩ := law_room_ev (n + 4) ds hds
  have fp : ∀ r v, RoomOk r v → lvl (DT rows) (n + 5) "_law_pairs" [roomD r] = some (.lst ((pairsL r v).map pairPD)) := fun r v h => pairs_ev n h
  have fg : ∀ c : Cel, c.1 < w → c.2 < rs.length → ∀ z, z = 46 ∨ z = 35 → lvl (DT rows) (n + 5) "_law_signed" [roomD rs, cellD c, .str (chS [z])] = some (roomD (setR rs c z)) := fun c hx hy z hz => law_signed_ev (n + 4) hr hx hy hz
  have fc : lvl (DT rows) (n + 5) "cells" [roomD rs] = some (cellsD (signL rs w 46)) := cells_ev (n + 3) hr
  have fb : ∀ p q, p ∈ signL rs w 46 → q ∈ signL rs w 46 → lvl (DT rows) (n + 5) "sees" [roomD rs, cellD p, cellD q] = some (.bl (seesB rs w p q)) := fun p q hp hq => sees_ev (n + 2) hr p q (hr.in6 hp) (hr.in6 hq)
  generalize lvl (DT rows) (n + 5) = F at *
  have fe := fp _ _ (open_ok hr.w1 hr.w6 hr.h1 hr.h6)
  obtain ⟨y6, y7, y8, e1⟩ := head_ev F hr fp (some (.scr ns)) (some (natD a')) (some (.lst (ds.map natD))) x4 x5 x6 x7 x8 x9 x10 x11 x12 x13 x14 x15 x16 x17 x18 x19 x20 x21 x22 x23
  obtain ⟨y9, y10, y11, y12, e2⟩ := t9_ev F hr hds (fun r h => fp r w h) fg (some (.scr ns)) (some (natD a')) y6 y7 y8 x9 x10 x11 x12 x13 x14 x15 x16 x17 x18 x19 x20 x21 x22 x23
  obtain ⟨y13, y14, y15, y16, e3⟩ := t14_ev F hr fc fb fe (some (.scr ns)) (some (natD a')) (some (.lst (ds.map natD))) (some (.lst ((pairsL rs w).map pairPD))) y6 y7 y8 y9 y10 y11 y12 x13 x14 x15 x16 x17 x18 x19 x20 x21 x22 x23
  refine ⟨[some (.scr ns), some (natD a'), some (.lst (ds.map natD)), some (roomD rs), some (.int (w : Int)), some (.lst ((pairsL rs w).map pairPD)), y6, y7, y8, y9, y10, y11, y12, y13, y14, y15, y16, x17, x18, x19, x20, x21, x22, x23], ?_, _, _, _, _, _, _, _, _, _, _, _, _, _, _, _, _, _, _, _, _, _, _, _, rfl⟩
  rw [← e3, ← e2, ← e1]
  clear e1 e2 e3 fe fp fg fc fb
  generalize D.lst (ds.map natD) = DS at *
  generalize roomD rs = R at *
  have h3' : F "_law_draws" [.scr ns, natD a', .int 60, .int 27720] = some DS := h3
  unfold k17C0
  simp only [s_sSeq, s_sNil, s_sRet, s_sRetT, s_sIf, s_sAsg, s_sPar, s_sSetM, s_cND, s_cC, s_cB, s_cU, s_cTup, s_cLst, s_cNil, s_cCons, s_cCall, s_cFn, s_cIx, s_cAnd, s_cOr, s_cNot, s_cIf, s_cTr, s_cBT, s_cAndT, s_cOrT, s_cNotT, s_cCh, s_cChT, s_cSl, s_sFor, s_cWalk, s_cLc, s_lcOne, s_cTrue, s_sApp, s_gN, s_gT, s_gsNil, s_gsCons, s_cV0, s_cVs, s_finR, s_finN, s_boolD, s_truB, s_setAll0, s_setAll1, s_op1, s_op2, s_abs, s_addI, s_subI, eqI, neI, ltI, gtI, leI, geI, mkTup1, mkTup2, mkTup3, idx_t0, idx_t1, idx_t2, obS, omS, List.set_cons_zero, List.set_cons_succ, s_cNone, s_cPart, s_intD, s_cRng1, s_walkL, s_walkT, s_lenT, s_lenL, s_lenS, s_slT, s_slL, if_true, if_false, decide_true, decide_false, Bool.not_true, Bool.not_false, Bool.and_true, Bool.and_false, Bool.true_and, Bool.false_and, Bool.false_eq_true, decide_eq_true_eq, s_cEnum, s_sPut, s_revL, s_revT, s_listL, s_listT, s_tupleL, s_tupleT, s_isDicLst, s_isDicTup, s_isDicInt, wipeE_nil, wipeE_cons, h3']
  unfold k17C1
  simp only [s_sSeq, s_sNil, s_sRet, s_sRetT, s_sIf, s_sAsg, s_sPar, s_sSetM, s_cND, s_cC, s_cB, s_cU, s_cTup, s_cLst, s_cNil, s_cCons, s_cCall, s_cFn, s_cIx, s_cAnd, s_cOr, s_cNot, s_cIf, s_cTr, s_cBT, s_cAndT, s_cOrT, s_cNotT, s_cCh, s_cChT, s_cSl, s_sFor, s_cWalk, s_cLc, s_lcOne, s_cTrue, s_sApp, s_gN, s_gT, s_gsNil, s_gsCons, s_cV0, s_cVs, s_finR, s_finN, s_boolD, s_truB, s_setAll0, s_setAll1, s_op1, s_op2, s_abs, s_addI, s_subI, eqI, neI, ltI, gtI, leI, geI, mkTup1, mkTup2, mkTup3, idx_t0, idx_t1, idx_t2, obS, omS, List.set_cons_zero, List.set_cons_succ, s_cNone, s_cPart, s_intD, s_cRng1, s_walkL, s_walkT, s_lenT, s_lenL, s_lenS, s_slT, s_slL, if_true, if_false, decide_true, decide_false, Bool.not_true, Bool.not_false, Bool.and_true, Bool.and_false, Bool.true_and, Bool.false_and, Bool.false_eq_true, decide_eq_true_eq, s_cEnum, s_sPut, s_revL, s_revT, s_listL, s_listT, s_tupleL, s_tupleT, s_isDicLst, s_isDicTup, s_isDicInt, wipeE_nil, wipeE_cons, h4]
theorem law_ev (n : Nat) (ns : List Int) (hn : ns.length ≤ 63) : lvl (DT rows) (n + 6) "law" [.scr ns] = some (.bl true) := by
  rw [v_law, k17_eq]
  obtain ⟨ρ1, i1, x1, x2, x3, x4, x5, x6, x7, x8, x9, x10, x11, x12, x13, x14, x15, x16, x17, x18, x19, x20, x21, x22, x23, rfl⟩ := for_inv (asg := gN 1) (body := k17C0 (lvl (DT rows) (n + 5))) (fun i ρ => ∃ x1 x2 x3 x4 x5 x6 x7 x8 x9 x10 x11 x12 x13 x14 x15 x16 x17 x18 x19 x20 x21 x22 x23, ρ = [some (.scr ns), x1, x2, x3, x4, x5, x6, x7, x8, x9, x10, x11, x12, x13, x14, x15, x16, x17, x18, x19, x20, x21, x22, x23]) [natD 0, natD 2, natD 4] 0
      [some (.scr ns), none, none, none, none, none, none, none, none, none, none, none, none, none, none, none, none, none, none, none, none, none, none, none] ⟨none, none, none, none, none, none, none, none, none, none, none, none, none, none, none, none, none, none, none, none, none, none, none, rfl⟩ (by
    rintro i hi ρ ⟨x1, x2, x3, x4, x5, x6, x7, x8, x9, x10, x11, x12, x13, x14, x15, x16, x17, x18, x19, x20, x21, x22, x23, rfl⟩
    have hi : i < 3 := hi
    obtain ⟨a, ha, e⟩ : ∃ a : Nat, a ≤ 100 ∧ [natD 0, natD 2, natD 4][i]'hi = natD a := by
      match i, hi with
      | 0, _ => exact ⟨0, by decide, rfl⟩
      | 1, _ => exact ⟨2, by decide, rfl⟩
      | 2, _ => exact ⟨4, by decide, rfl⟩
    rw [e, s_gN, obS]
    simp only [List.set_cons_succ, List.set_cons_zero]
    exact outer_ev n ns hn a ha x2 x3 x4 x5 x6 x7 x8 x9 x10 x11 x12 x13 x14 x15 x16 x17 x18 x19 x20 x21 x22 x23)
  generalize lvl (DT rows) (n + 5) = F at *
  unfold k170
  rw [s_sSeq, s_sFor, s_cWalk, s_cTup]
  simp only [s_cCons, s_cC, s_cNil, obS, mkTup3, s_walkT]
  have i1 : forD (gN 1) (k17C0 F) [.int 0, .int 2, .int 4] [some (.scr ns), none, none, none, none, none, none, none, none, none, none, none, none, none, none, none, none, none, none, none, none, none, none, none] = _ := i1
  rw [i1]
  simp only [obS]
  unfold k171
  simp only [s_sSeq, s_sNil, s_sRet, s_sRetT, s_sIf, s_sAsg, s_sPar, s_sSetM, s_cND, s_cC, s_cB, s_cU, s_cTup, s_cLst, s_cNil, s_cCons, s_cCall, s_cFn, s_cIx, s_cAnd, s_cOr, s_cNot, s_cIf, s_cTr, s_cBT, s_cAndT, s_cOrT, s_cNotT, s_cCh, s_cChT, s_cSl, s_sFor, s_cWalk, s_cLc, s_lcOne, s_cTrue, s_sApp, s_gN, s_gT, s_gsNil, s_gsCons, s_cV0, s_cVs, s_finR, s_finN, s_boolD, s_truB, s_setAll0, s_setAll1, s_op1, s_op2, s_abs, s_addI, s_subI, eqI, neI, ltI, gtI, leI, geI, mkTup1, mkTup2, mkTup3, idx_t0, idx_t1, idx_t2, obS, omS, List.set_cons_zero, List.set_cons_succ, s_cNone, s_cPart, s_intD, s_cRng1, s_walkL, s_walkT, s_lenT, s_lenL, s_lenS, s_slT, s_slL, if_true, if_false, decide_true, decide_false, Bool.not_true, Bool.not_false, Bool.and_true, Bool.and_false, Bool.true_and, Bool.false_and, Bool.false_eq_true, decide_eq_true_eq, s_cEnum, s_sPut, s_revL, s_revT, s_listL, s_listT, s_tupleL, s_tupleT, s_isDicLst, s_isDicTup, s_isDicInt, wipeE_nil, wipeE_cons]
end L
end
theorem PySem.Challenge.cw_rigeyes_k17_whole_sight_holds : PySem.Challenge.rw_rigeyes_k17_whole_sight.Holds := by
  exact law_holds 6 ⟨rfl, by decide, by decide⟩ (fun ns hn => L.law_ev 0 ns hn)
