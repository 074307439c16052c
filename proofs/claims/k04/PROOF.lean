import PyProof.Rows.All
import HandS.ForMost
import HandS.TupAny
import HandS.IsInst
import HandS.Style
import HandS.Flow
import HandS.Wide
import HandS.TupMul
import KE.DataEq
import KE.DataCmp
import KE.KEqDict
import HandS.Dict
import PyProof.StrOps2
import HandS.TupLen
import HandS.Conv
import HandS.Walk
import HandS.Zip
import KE.GoesEnum
import HandS.Small
import HandS.Text
import KE.SortData
import HandS.More
import PyProof.Rows.StrMeet
import HandS.SetBool
import HandS.SetFor
import HandS.SetKeys
import KE.DataMinMax
import PyProof.Claim2Refuses
import HandS.Iter
import HandS.DictComp
import PyProof.ListStr
import KE.KDictPairs
import PyProof.DictUpdate
import HandS.Defaults
import HandS.CallLocal
import HandS.Ends
import HandS.HeadEnd
import HandS.HeadHook2
import HandS.Head0
import HandS.Head1
import HandS.Head2
import HandS.HeadHook1
import PySem.Challenge.RW_rigeyes_k04_located
set_option Elab.async false
set_option linter.all false
set_option maxRecDepth 100000
set_option maxHeartbeats 0
/-! RE1: plain values as trees, and how an abstract heap of the hand layer bears them. -/
namespace RE
open PySem PySem.Spec PyProof.Rows L2

/-- plain values: trees, no heap. scr: the script; fn: a def of the module, by name -/
inductive D where
  | non | bl (b : Bool) | int (i : Int) | str (s : Str) | tup (xs : List D) | lst (xs : List D)
  | dic (t : Bool) (kvs : List (D × D)) | scr (ns : List Int) | fn (f : Str)

/-- a dict's key as a tree -/
def keyD : Key → D
  | .inl i => .int i
  | .inr s => .str s
/-- the pairs of the dict at a: keys as trees, values as they stand -/
def HD (t : Bool) (H : Hp) (a : Addr) (ps : List (D × V)) : Prop :=
  match t with
  | false => ∃ ks : List (Key × V), Rd H a (.dK ks) ∧ ps = ks.map fun q => (keyD q.1, q.2)
  | true => ∃ ks : List (List Key × V), Rd H a (.dT ks) ∧ ps = ks.map fun q => (.tup (q.1.map keyD), q.2)

mutual
/-- v bears d in H; every list and dict in it stands at a place that P allows -/
def Rep (P : Addr → Prop) (H : Hp) : D → V → Prop
  | .non, v => v = .non
  | .bl b, v => v = .bl b
  | .int i, v => v = .int i
  | .str s, v => v = .str s
  | .tup ds, v => ∃ a vs, v = .ref a ∧ H a = some (.tup vs) ∧ RepL P H ds vs
  | .lst ds, v => ∃ a vs, v = .ref a ∧ P a ∧ H a = some (.lst vs) ∧ RepL P H ds vs
  | .dic t kvs, v => ∃ a ps, v = .ref a ∧ P a ∧ HD t H a ps ∧ RepKV P H kvs ps
  | .scr ns, v => ∃ a o, v = .ref a ∧ H a = some (.frz o (.lst (ns.map V.int)))
  | .fn _, _ => False
def RepL (P : Addr → Prop) (H : Hp) : List D → List V → Prop
  | [], vs => vs = []
  | d :: ds, vs => ∃ v r, vs = v :: r ∧ Rep P H d v ∧ RepL P H ds r
def RepKV (P : Addr → Prop) (H : Hp) : List (D × D) → List (D × V) → Prop
  | [], ps => ps = []
  | (k, d) :: kvs, ps => ∃ v r, ps = (k, v) :: r ∧ Rep P H d v ∧ RepKV P H kvs r
end

theorem HD.same {t : Bool} {H H' : Hp} {a : Addr} {ps : List (D × V)} (s : Same H H') (h : HD t H a ps) : HD t H' a ps := by
  cases t
  · obtain ⟨ks, (r | ⟨o, r⟩), e⟩ := h
    · exact ⟨ks, .inl (s _ _ r), e⟩
    · exact ⟨ks, .inr ⟨o, s _ _ r⟩, e⟩
  · obtain ⟨ks, (r | ⟨o, r⟩), e⟩ := h
    · exact ⟨ks, .inl (s _ _ r), e⟩
    · exact ⟨ks, .inr ⟨o, s _ _ r⟩, e⟩
theorem HD.some {t : Bool} {H : Hp} {a : Addr} {ps : List (D × V)} (h : HD t H a ps) : H a ≠ none := by
  cases t <;> obtain ⟨ks, (r | ⟨o, r⟩), e⟩ := h <;> (rw [r]; simp)

mutual
theorem Rep.mono {P P' : Addr → Prop} {H H' : Hp} (s : Same H H') (hp : ∀ a, H a ≠ none → P a → P' a) : ∀ (d : D) (v : V), Rep P H d v → Rep P' H' d v
  | .non, v, h => by unfold Rep at h ⊢; exact h
  | .bl b, v, h => by unfold Rep at h ⊢; exact h
  | .int i, v, h => by unfold Rep at h ⊢; exact h
  | .str x, v, h => by unfold Rep at h ⊢; exact h
  | .tup ds, v, h => by
    unfold Rep at h ⊢
    obtain ⟨a, vs, e, h1, h2⟩ := h
    exact ⟨a, vs, e, s _ _ h1, RepL.mono s hp ds vs h2⟩
  | .lst ds, v, h => by
    unfold Rep at h ⊢
    obtain ⟨a, vs, e, h0, h1, h2⟩ := h
    exact ⟨a, vs, e, hp a (by rw [h1]; simp) h0, s _ _ h1, RepL.mono s hp ds vs h2⟩
  | .dic t kvs, v, h => by
    unfold Rep at h ⊢
    obtain ⟨a, ps, e, h0, h1, h2⟩ := h
    exact ⟨a, ps, e, hp a h1.some h0, h1.same s, RepKV.mono s hp kvs ps h2⟩
  | .scr ns, v, h => by
    unfold Rep at h ⊢
    obtain ⟨a, o, e, h1⟩ := h
    exact ⟨a, o, e, s _ _ h1⟩
  | .fn f, v, h => by unfold Rep at h; exact h.elim
theorem RepL.mono {P P' : Addr → Prop} {H H' : Hp} (s : Same H H') (hp : ∀ a, H a ≠ none → P a → P' a) : ∀ (ds : List D) (vs : List V), RepL P H ds vs → RepL P' H' ds vs
  | [], vs, h => by unfold RepL at h ⊢; exact h
  | d :: ds, vs, h => by
    unfold RepL at h ⊢
    obtain ⟨v, r, e, h1, h2⟩ := h
    exact ⟨v, r, e, Rep.mono s hp d v h1, RepL.mono s hp ds r h2⟩
theorem RepKV.mono {P P' : Addr → Prop} {H H' : Hp} (s : Same H H') (hp : ∀ a, H a ≠ none → P a → P' a) : ∀ (kvs : List (D × D)) (ps : List (D × V)), RepKV P H kvs ps → RepKV P' H' kvs ps
  | [], ps, h => by unfold RepKV at h ⊢; exact h
  | (k, d) :: kvs, ps, h => by
    unfold RepKV at h ⊢
    obtain ⟨v, r, e, h1, h2⟩ := h
    exact ⟨v, r, e, Rep.mono s hp d v h1, RepKV.mono s hp kvs r h2⟩
end
theorem Rep.same {P : Addr → Prop} {H H' : Hp} (s : Same H H') {d : D} {v : V} (h : Rep P H d v) : Rep P H' d v := Rep.mono s (fun _ _ p => p) d v h
theorem RepL.same {P : Addr → Prop} {H H' : Hp} (s : Same H H') {d : List D} {v : List V} (h : RepL P H d v) : RepL P H' d v := RepL.mono s (fun _ _ p => p) d v h
theorem RepKV.same {P : Addr → Prop} {H H' : Hp} (s : Same H H') {d : List (D × D)} {v : List (D × V)} (h : RepKV P H d v) : RepKV P H' d v := RepKV.mono s (fun _ _ p => p) d v h
theorem Rep.weak {P P' : Addr → Prop} {H : Hp} (hp : ∀ a, P a → P' a) {d : D} {v : V} (h : Rep P H d v) : Rep P' H d v := Rep.mono (Same.refl H) (fun a _ p => hp a p) d v h
theorem RepL.weak {P P' : Addr → Prop} {H : Hp} (hp : ∀ a, P a → P' a) {d : List D} {v : List V} (h : RepL P H d v) : RepL P' H d v := RepL.mono (Same.refl H) (fun a _ p => hp a p) d v h
theorem RepKV.weak {P P' : Addr → Prop} {H : Hp} (hp : ∀ a, P a → P' a) {d : List (D × D)} {v : List (D × V)} (h : RepKV P H d v) : RepKV P' H d v := RepKV.mono (Same.refl H) (fun a _ p => hp a p) d v h
/-- a place where nothing stands is not among those that bear it -/
theorem Rep.avoid {P : Addr → Prop} {H : Hp} {a : Addr} (n : H a = none) {d : D} {v : V} (h : Rep P H d v) : Rep (fun b => P b ∧ b ≠ a) H d v :=
  Rep.mono (Same.refl H) (fun b hb p => ⟨p, fun e => hb (e ▸ n)⟩) d v h
theorem RepL.avoid {P : Addr → Prop} {H : Hp} {a : Addr} (n : H a = none) {d : List D} {v : List V} (h : RepL P H d v) : RepL (fun b => P b ∧ b ≠ a) H d v :=
  RepL.mono (Same.refl H) (fun b hb p => ⟨p, fun e => hb (e ▸ n)⟩) d v h
theorem RepKV.avoid {P : Addr → Prop} {H : Hp} {a : Addr} (n : H a = none) {d : List (D × D)} {v : List (D × V)} (h : RepKV P H d v) : RepKV (fun b => P b ∧ b ≠ a) H d v :=
  RepKV.mono (Same.refl H) (fun b hb p => ⟨p, fun e => hb (e ▸ n)⟩) d v h

/-- an object that may change: a list or a dict (not locked) -/
def Chg : Option HO → Prop
  | some (.lst _) => True
  | some (.dK _) => True
  | some (.dT _) => True
  | _ => False
theorem Rd.upd_ne {H : Hp} {a b : Addr} {o u : HO} (h : Rd H b u) (ne : b ≠ a) : Rd (upd H a o) b u := by
  rcases h with h | ⟨x, h⟩
  · exact .inl (by rw [L2.upd_ne ne]; exact h)
  · exact .inr ⟨x, by rw [L2.upd_ne ne]; exact h⟩
theorem HD.upd_ne {t : Bool} {H : Hp} {a b : Addr} {o : HO} {ps : List (D × V)} (h : HD t H b ps) (ne : b ≠ a) : HD t (upd H a o) b ps := by
  cases t <;> obtain ⟨ks, r, e⟩ := h <;> exact ⟨ks, Rd.upd_ne r ne, e⟩
mutual
/-- a list or dict that is not among those that bear it is changed -/
theorem Rep.chg {P : Addr → Prop} {H : Hp} {a : Addr} {o : HO} (c : Chg (H a)) (np : ¬ P a) : ∀ (d : D) (v : V), Rep P H d v → Rep P (upd H a o) d v
  | .non, v, h => by unfold Rep at h ⊢; exact h
  | .bl b, v, h => by unfold Rep at h ⊢; exact h
  | .int i, v, h => by unfold Rep at h ⊢; exact h
  | .str x, v, h => by unfold Rep at h ⊢; exact h
  | .tup ds, v, h => by
    unfold Rep at h ⊢
    obtain ⟨b, vs, e, h1, h2⟩ := h
    refine ⟨b, vs, e, ?_, RepL.chg c np ds vs h2⟩
    rw [upd_ne (fun q => by rw [q] at h1; rw [h1] at c; exact c)]; exact h1
  | .lst ds, v, h => by
    unfold Rep at h ⊢
    obtain ⟨b, vs, e, h0, h1, h2⟩ := h
    refine ⟨b, vs, e, h0, ?_, RepL.chg c np ds vs h2⟩
    rw [upd_ne (by intro q; subst q; exact np h0)]; exact h1
  | .dic t kvs, v, h => by
    unfold Rep at h ⊢
    obtain ⟨b, ps, e, h0, h1, h2⟩ := h
    exact ⟨b, ps, e, h0, h1.upd_ne (by intro q; subst q; exact np h0), RepKV.chg c np kvs ps h2⟩
  | .scr ns, v, h => by
    unfold Rep at h ⊢
    obtain ⟨b, ob, e, h1⟩ := h
    refine ⟨b, ob, e, ?_⟩
    rw [upd_ne (fun q => by rw [q] at h1; rw [h1] at c; exact c)]; exact h1
  | .fn f, v, h => by unfold Rep at h; exact h.elim
theorem RepL.chg {P : Addr → Prop} {H : Hp} {a : Addr} {o : HO} (c : Chg (H a)) (np : ¬ P a) : ∀ (ds : List D) (vs : List V), RepL P H ds vs → RepL P (upd H a o) ds vs
  | [], vs, h => by unfold RepL at h ⊢; exact h
  | d :: ds, vs, h => by
    unfold RepL at h ⊢
    obtain ⟨v, r, e, h1, h2⟩ := h
    exact ⟨v, r, e, Rep.chg c np d v h1, RepL.chg c np ds r h2⟩
theorem RepKV.chg {P : Addr → Prop} {H : Hp} {a : Addr} {o : HO} (c : Chg (H a)) (np : ¬ P a) : ∀ (kvs : List (D × D)) (ps : List (D × V)), RepKV P H kvs ps → RepKV P (upd H a o) kvs ps
  | [], ps, h => by unfold RepKV at h ⊢; exact h
  | (k, d) :: kvs, ps, h => by
    unfold RepKV at h ⊢
    obtain ⟨v, r, e, h1, h2⟩ := h
    exact ⟨v, r, e, Rep.chg c np d v h1, RepKV.chg c np kvs r h2⟩
end

theorem HD.inj {t t' : Bool} {H : Hp} {a : Addr} {ps qs : List (D × V)} (h : HD t H a ps) (g : HD t' H a qs) : t = t' ∧ ps = qs := by
  cases t <;> cases t' <;> obtain ⟨ks, (r | ⟨o, r⟩), e⟩ := h <;> obtain ⟨ks', (r' | ⟨o', r'⟩), e'⟩ := g <;>
    (rw [r] at r'; cases r' <;> exact ⟨rfl, by rw [e, e']⟩)
theorem HD.obj {t : Bool} {H : Hp} {a : Addr} {ps : List (D × V)} (h : HD t H a ps) {o : HO} (e : H a = Option.some o) : (∀ xs, o ≠ .tup xs) ∧ (∀ xs, o ≠ .lst xs) ∧ ∀ ob xs, o ≠ .frz ob (.lst xs) := by
  cases t <;> obtain ⟨ks, (r | ⟨o', r⟩), _⟩ := h <;> (rw [e] at r; cases r; exact ⟨(fun _ z => nomatch z), (fun _ z => nomatch z), (fun _ _ z => nomatch z)⟩)
mutual
theorem Rep.inj {P P' : Addr → Prop} {H : Hp} : ∀ (d d' : D) (v : V), Rep P H d v → Rep P' H d' v → d = d'
  | .non, d', v, h, g => by cases d' <;> simp only [Rep] at h g <;> simp_all
  | .bl b, d', v, h, g => by cases d' <;> simp only [Rep] at h g <;> simp_all
  | .int i, d', v, h, g => by cases d' <;> simp only [Rep] at h g <;> simp_all
  | .str x, d', v, h, g => by cases d' <;> simp only [Rep] at h g <;> simp_all
  | .tup ds, d', v, h, g => by
    simp only [Rep] at h
    obtain ⟨a, vs, e, h1, h2⟩ := h
    subst e
    cases d' with
    | tup es =>
      simp only [Rep] at g
      obtain ⟨b, ws, e, g1, g2⟩ := g
      cases e; rw [h1] at g1; cases g1
      rw [RepL.inj ds es vs h2 g2]
    | lst es => simp only [Rep] at g; obtain ⟨b, ws, e, _, g1, _⟩ := g; cases e; rw [h1] at g1; cases g1
    | dic t es => simp only [Rep] at g; obtain ⟨b, ws, e, _, g1, _⟩ := g; cases e; have q := g1.obj h1; first | exact absurd rfl (q.1 _) | exact absurd rfl (q.2.1 _) | exact absurd rfl (q.2.2 _ _)
    | scr ns => simp only [Rep] at g; obtain ⟨b, ws, e, g1⟩ := g; cases e; rw [h1] at g1; cases g1
    | _ => simp only [Rep] at g <;> simp_all
  | .lst ds, d', v, h, g => by
    simp only [Rep] at h
    obtain ⟨a, vs, e, _, h1, h2⟩ := h
    subst e
    cases d' with
    | tup es => simp only [Rep] at g; obtain ⟨b, ws, e, g1, _⟩ := g; cases e; rw [h1] at g1; cases g1
    | lst es =>
      simp only [Rep] at g
      obtain ⟨b, ws, e, _, g1, g2⟩ := g
      cases e; rw [h1] at g1; cases g1
      rw [RepL.inj ds es vs h2 g2]
    | dic t es => simp only [Rep] at g; obtain ⟨b, ws, e, _, g1, _⟩ := g; cases e; have q := g1.obj h1; first | exact absurd rfl (q.1 _) | exact absurd rfl (q.2.1 _) | exact absurd rfl (q.2.2 _ _)
    | scr ns => simp only [Rep] at g; obtain ⟨b, ws, e, g1⟩ := g; cases e; rw [h1] at g1; cases g1
    | _ => simp only [Rep] at g <;> simp_all
  | .dic t kvs, d', v, h, g => by
    simp only [Rep] at h
    obtain ⟨a, ps, e, _, h1, h2⟩ := h
    subst e
    cases d' with
    | tup es => simp only [Rep] at g; obtain ⟨b, ws, e, g1, _⟩ := g; cases e; exact absurd rfl ((h1.obj g1).1 _)
    | lst es => simp only [Rep] at g; obtain ⟨b, ws, e, _, g1, _⟩ := g; cases e; exact absurd rfl ((h1.obj g1).2.1 _)
    | dic t es =>
      simp only [Rep] at g
      obtain ⟨b, qs, e, _, g1, g2⟩ := g
      cases e
      obtain ⟨rfl, rfl⟩ := h1.inj g1
      rw [RepKV.inj kvs es ps h2 g2]
    | scr ns => simp only [Rep] at g; obtain ⟨b, ws, e, g1⟩ := g; cases e; exact absurd rfl ((h1.obj g1).2.2 _ _)
    | _ => simp only [Rep] at g <;> simp_all
  | .scr ns, d', v, h, g => by
    simp only [Rep] at h
    obtain ⟨a, o, e, h1⟩ := h
    subst e
    cases d' with
    | tup es => simp only [Rep] at g; obtain ⟨b, ws, e, g1, _⟩ := g; cases e; rw [h1] at g1; cases g1
    | lst es => simp only [Rep] at g; obtain ⟨b, ws, e, _, g1, _⟩ := g; cases e; rw [h1] at g1; cases g1
    | dic t es => simp only [Rep] at g; obtain ⟨b, ws, e, _, g1, _⟩ := g; cases e; have q := g1.obj h1; first | exact absurd rfl (q.1 _) | exact absurd rfl (q.2.1 _) | exact absurd rfl (q.2.2 _ _)
    | scr ms =>
      simp only [Rep] at g
      obtain ⟨b, o', e, g1⟩ := g
      cases e; rw [h1] at g1
      have q := HO.lst.inj (HO.frz.inj (Option.some.inj g1)).2
      have : ns = ms := by
        have := congrArg (List.map fun (x : V) => match x with | .int i => i | _ => 0) q
        simpa [List.map_map, Function.comp_def] using this
      rw [this]
    | _ => simp only [Rep] at g <;> simp_all
  | .fn f, d', v, h, g => by simp only [Rep] at h
theorem RepL.inj {P P' : Addr → Prop} {H : Hp} : ∀ (ds ds' : List D) (vs : List V), RepL P H ds vs → RepL P' H ds' vs → ds = ds'
  | [], [], _, _, _ => rfl
  | [], _ :: _, vs, h, g => by simp only [RepL] at h g; obtain ⟨v, r, e, _⟩ := g; rw [h] at e; cases e
  | _ :: _, [], vs, h, g => by simp only [RepL] at h g; obtain ⟨v, r, e, _⟩ := h; rw [g] at e; cases e
  | d :: ds, d' :: ds', vs, h, g => by
    simp only [RepL] at h g
    obtain ⟨v, r, e, h1, h2⟩ := h
    obtain ⟨v', r', e', g1, g2⟩ := g
    subst e; cases e'
    rw [Rep.inj d d' v h1 g1, RepL.inj ds ds' r h2 g2]
theorem RepKV.inj {P P' : Addr → Prop} {H : Hp} : ∀ (kvs kvs' : List (D × D)) (ps : List (D × V)), RepKV P H kvs ps → RepKV P' H kvs' ps → kvs = kvs'
  | [], [], _, _, _ => rfl
  | [], (k, d) :: _, vs, h, g => by simp only [RepKV] at h g; obtain ⟨v, r, e, _⟩ := g; rw [h] at e; cases e
  | (k, d) :: _, [], vs, h, g => by simp only [RepKV] at h g; obtain ⟨v, r, e, _⟩ := h; rw [g] at e; cases e
  | (k, d) :: kvs, (k', d') :: kvs', ps, h, g => by
    simp only [RepKV] at h g
    obtain ⟨v, r, e, h1, h2⟩ := h
    obtain ⟨v', r', e', g1, g2⟩ := g
    subst e; cases e'
    rw [Rep.inj d d' v h1 g1, RepKV.inj kvs kvs' r h2 g2]
end
end RE
/-! RE2: judgements: a piece of the text gives what a function of trees gives. -/
namespace RE
open PySem PySem.Spec PyProof.Rows L2

abbrev Fn := Str → List D → Option D
abbrev Env := List (Option D)
abbrev SE := Fn → Env → Option D
abbrev SB := Fn → Env → Option Bool
abbrev SA := Fn → Env → Option (List D)
/-- F: shared, never changed; M: the frame's own, may be changed; L: own, not changed for now; B: only looked at -/
inductive Kind | F | M | L | B
  deriving DecidableEq

/-- as Rep, the outermost object wherever it stands; defs of the module too -/
def RepB (mg : Str → Option Value) (P : Addr → Prop) (H : Hp) : D → V → Prop
  | .lst ds, v => ∃ a vs, v = .ref a ∧ H a = some (.lst vs) ∧ RepL P H ds vs
  | .dic t kvs, v => ∃ a ps, v = .ref a ∧ HD t H a ps ∧ RepKV P H kvs ps
  | .fn f, v => ∃ a, v = .ref a ∧ mg f = some (.ref a)
  | .non, v => v = .non
  | .bl b, v => v = .bl b
  | .int i, v => v = .int i
  | .str s, v => v = .str s
  | .tup ds, v => Rep P H (.tup ds) v
  | .scr ns, v => Rep P H (.scr ns) v

section
variable {mg : Str → Option Value} {P P' : Addr → Prop} {H H' : Hp} {d : D} {v : V}
theorem Rep.toB (h : Rep P H d v) : RepB mg P H d v := by
  cases d <;> simp only [Rep] at h <;> simp only [RepB, Rep] <;> first | exact h | skip
  · obtain ⟨a, vs, e, _, h1, h2⟩ := h; exact ⟨a, vs, e, h1, h2⟩
  · obtain ⟨a, vs, e, _, h1, h2⟩ := h; exact ⟨a, vs, e, h1, h2⟩
theorem RepB.mono (s : Same H H') (hp : ∀ a, H a ≠ none → P a → P' a) (h : RepB mg P H d v) : RepB mg P' H' d v := by
  cases d <;> simp only [RepB] at h ⊢ <;> first | exact h | exact Rep.mono s hp _ _ h | skip
  · obtain ⟨a, vs, e, h1, h2⟩ := h; exact ⟨a, vs, e, s _ _ h1, RepL.mono s hp _ _ h2⟩
  · obtain ⟨a, vs, e, h1, h2⟩ := h; exact ⟨a, vs, e, h1.same s, RepKV.mono s hp _ _ h2⟩
theorem RepB.same (s : Same H H') (h : RepB mg P H d v) : RepB mg P H' d v := h.mono s fun _ _ p => p
theorem RepB.weak (hp : ∀ a, P a → P' a) (h : RepB mg P H d v) : RepB mg P' H d v := h.mono (Same.refl H) fun a _ p => hp a p
end

/-- what a slot of a kind bears -/
def RepK (mg : Str → Option Value) (P : Addr → Prop) (H : Hp) (k : Kind) (d : D) (v : V) : Prop :=
  match k with
  | .F => Rep P H d v
  | _ => RepB mg P H d v
theorem RepK.toB {mg : Str → Option Value} {P : Addr → Prop} {H : Hp} {k : Kind} {d : D} {v : V} (h : RepK mg P H k d v) : RepB mg P H d v := by
  cases k with
  | F => exact Rep.toB h
  | _ => exact h
theorem RepK.mono {mg : Str → Option Value} {P P' : Addr → Prop} {H H' : Hp} {k : Kind} {d : D} {v : V} (s : Same H H') (hp : ∀ a, H a ≠ none → P a → P' a) (h : RepK mg P H k d v) : RepK mg P' H' k d v := by
  cases k with
  | F => exact Rep.mono s hp _ _ h
  | _ => exact RepB.mono s hp h
abbrev Ks := List Kind
def kd (ks : Ks) (i : Nat) : Kind := ks.getD i .F
/-- the slots bear the environment -/
def ER (mg : Str → Option Value) (P : Addr → Prop) (ks : Ks) (H : Hp) (σ : L2.St) (ρ : Env) : Prop :=
  ρ.length = σ.length ∧ ∀ i d, ρ[i]? = some (some d) → ∃ v, σ[i]? = some (some v) ∧ RepK mg P H (kd ks i) d v
theorem ER.mono {mg : Str → Option Value} {P P' : Addr → Prop} {ks : Ks} {H H' : Hp} {σ : L2.St} {ρ : Env} (s : Same H H') (hp : ∀ a, H a ≠ none → P a → P' a) (h : ER mg P ks H σ ρ) : ER mg P' ks H' σ ρ := ⟨h.1, fun i d e =>
  let ⟨v, e1, r⟩ := h.2 i d e
  ⟨v, e1, r.mono s hp⟩⟩
theorem ER.same {mg : Str → Option Value} {P : Addr → Prop} {ks : Ks} {H H' : Hp} {σ : L2.St} {ρ : Env} (s : Same H H') (h : ER mg P ks H σ ρ) : ER mg P ks H' σ ρ := h.mono s fun _ _ p => p
/-- all places where nothing stands are allowed -/
abbrev Fre (P : Addr → Prop) (H : Hp) : Prop := ∀ a, H a = none → P a
theorem Fre.same {P : Addr → Prop} {H H' : Hp} (f : Fre P H) (s : Same H H') : Fre P H' := fun a h => f a (s.free h)

/-- the outermost list or dict is new -/
def TopNew (H : Hp) : D → V → Prop
  | .lst _, v => ∀ a, v = .ref a → H a = none
  | .dic _ _, v => ∀ a, v = .ref a → H a = none
  | _, _ => True
theorem TopNew.back {H H' : Hp} {d : D} {v : V} (s : Same H H') (h : TopNew H' d v) : TopNew H d v := by
  cases d <;> simp only [TopNew] at h ⊢ <;> exact fun a e => s.free (h a e)

abbrev Cn (mg : Str → Option Value) (H : Hp) (ks : Ks) (F : Fn) (f : SE) (σ : L2.St) (R : (Addr → Prop) → D → V → Hp → Prop) (t : TE) : Prop :=
  ∀ (P : Addr → Prop) (ρ : Env) (Q : VK) (d : D), Fre P H → ER mg P ks H σ ρ → f F ρ = some d → (∀ v H', Same H H' → R P d v H' → Q v H') → t σ H Q

/-- e gives f; a new object where it is a list or dict -/
structure EvN (X : Cx) (ks : Ks) (F : Fn) (e : Expr) (f : SE) : Prop where
  ex : ∃ t : TE, PE X e t ∧ ∀ σ H, Cn X.mg H ks F f σ (fun P d v H' => Rep P H' d v ∧ TopNew H d v) t
/-- e gives f -/
structure EvE (X : Cx) (ks : Ks) (F : Fn) (e : Expr) (f : SE) : Prop where
  ex : ∃ t : TE, PE X e t ∧ ∀ σ H, Cn X.mg H ks F f σ (fun P d v H' => Rep P H' d v) t
/-- e gives f, to be looked at -/
structure EvP (X : Cx) (ks : Ks) (F : Fn) (e : Expr) (f : SE) : Prop where
  ex : ∃ t : TE, PE X e t ∧ ∀ σ H, Cn X.mg H ks F f σ (fun P d v H' => RepB X.mg P H' d v) t
theorem EvN.toE {X : Cx} {ks : Ks} {F : Fn} {e : Expr} {f : SE} (h : EvN X ks F e f) : EvE X ks F e f :=
  let ⟨t, p, q⟩ := h.ex
  ⟨t, p, fun σ H P ρ Q d fr er ev k => q σ H P ρ Q d fr er ev fun v H' s r => k v H' s r.1⟩
theorem EvE.toP {X : Cx} {ks : Ks} {F : Fn} {e : Expr} {f : SE} (h : EvE X ks F e f) : EvP X ks F e f :=
  let ⟨t, p, q⟩ := h.ex
  ⟨t, p, fun σ H P ρ Q d fr er ev k => q σ H P ρ Q d fr er ev fun v H' s r => k v H' s r.toB⟩
theorem EvN.toP {X : Cx} {ks : Ks} {F : Fn} {e : Expr} {f : SE} (h : EvN X ks F e f) : EvP X ks F e f := h.toE.toP
/-- a test -/
structure EvT (X : Cx) (ks : Ks) (F : Fn) (e : Expr) (f : SB) : Prop where
  ex : ∃ t : TT, PT X e t ∧ ∀ σ H (P : Addr → Prop) (ρ : Env) (Q : Bool → Hp → Prop) (b : Bool), Fre P H → ER X.mg P ks H σ ρ → f F ρ = some b → (∀ H', Same H H' → Q b H') → t σ H Q
structure EvW (X : Cx) (ks : Ks) (F : Fn) (e : Expr) (f : SB) : Prop where
  ex : ∃ t : TT, PW X e t ∧ ∀ σ H (P : Addr → Prop) (ρ : Env) (Q : Bool → Hp → Prop) (b : Bool), Fre P H → ER X.mg P ks H σ ρ → f F ρ = some b → (∀ H', Same H H' → Q b H') → t σ H Q
/-- arguments: by kinds (F: shared; else looked at) -/
def RepA (mg : Str → Option Value) (P : Addr → Prop) (H : Hp) : List Kind → List D → List V → Prop
  | _, [], vs => vs = []
  | ks, d :: ds, vs => ∃ v r, vs = v :: r ∧ RepK mg P H (ks.headD .F) d v ∧ RepA mg P H ks.tail ds r
theorem RepA.mono {mg : Str → Option Value} {P P' : Addr → Prop} {H H' : Hp} (s : Same H H') (hp : ∀ a, H a ≠ none → P a → P' a) : ∀ {ks : List Kind} {ds : List D} {vs : List V}, RepA mg P H ks ds vs → RepA mg P' H' ks ds vs
  | _, [], _, h => h
  | ks, d :: ds, vs, h => by
    obtain ⟨v, r, e, h1, h2⟩ := h
    exact ⟨v, r, e, h1.mono s hp, RepA.mono s hp h2⟩
theorem RepA.length {mg : Str → Option Value} {P : Addr → Prop} {H : Hp} : ∀ {ks : List Kind} {ds : List D} {vs : List V}, RepA mg P H ks ds vs → vs.length = ds.length
  | _, [], _, h => by rw [show _ = [] from h]; rfl
  | ks, d :: ds, vs, h => by
    obtain ⟨v, r, e, h1, h2⟩ := h
    rw [e, List.length_cons, List.length_cons, RepA.length h2]
structure EvA (X : Cx) (ks : Ks) (F : Fn) (pk : List Kind) (es : List Expr) (f : SA) : Prop where
  ex : ∃ t : TA, PA X es t ∧ ∀ σ H (P : Addr → Prop) (ρ : Env) (Q : List V → Hp → Prop) (ds : List D), Fre P H → ER X.mg P ks H σ ρ → f F ρ = some ds → (∀ vs H', Same H H' → RepA X.mg P H' pk ds vs → Q vs H') → t σ H Q

section
variable {X : Cx} {ks : Ks} {F : Fn} {pos : Pos}
/-! ### names and constants -/
def cC (d : D) : SE := fun _ _ => some d
def cV (i : Nat) : SE := fun _ ρ => match ρ[i]? with | some (some d) => some d | _ => none
theorem cV_some {i : Nat} {ρ : Env} {d : D} (h : cV i F ρ = some d) : ρ[i]? = some (some d) := by
  unfold cV at h
  split at h
  · rename_i e; rw [← h]; exact e
  · cases h
theorem evE_var {i : Nat} {x : Str} (hN : X.N[i]? = some x) (hv : Vis X.env.scope x) (hk : kd ks i = .F) (hd : (x == ("__debug__" : Str)) = false) (hcd : (x == ("__classdict__" : Str)) = false) : EvE X ks F (.Name x pos) (cV i) := by
  refine ⟨tVar i, pe_var hN hv hd hcd, fun σ H P ρ Q d fr er ev k => ?_⟩
  obtain ⟨v, e, r⟩ := er.2 i d (cV_some ev)
  rw [hk] at r
  exact ⟨v, e, k v H (Same.refl H) r⟩
theorem evP_var {i : Nat} {x : Str} (hN : X.N[i]? = some x) (hv : Vis X.env.scope x) (hd : (x == ("__debug__" : Str)) = false) (hcd : (x == ("__classdict__" : Str)) = false) : EvP X ks F (.Name x pos) (cV i) := by
  refine ⟨tVar i, pe_var hN hv hd hcd, fun σ H P ρ Q d fr er ev k => ?_⟩
  obtain ⟨v, e, r⟩ := er.2 i d (cV_some ev)
  exact ⟨v, e, k v H (Same.refl H) r.toB⟩
theorem evN_int {i j} : EvN X ks F (.Constant (.int i) j pos) (cC (.int i)) :=
  ⟨tC (.int i), pe_int, fun σ H P ρ Q d fr er ev k => by cases ev; exact k _ H (Same.refl H) ⟨rfl, trivial⟩⟩
theorem evN_bl {b j} : EvN X ks F (.Constant (.bool b) j pos) (cC (.bl b)) :=
  ⟨tC (.bl b), pe_bl, fun σ H P ρ Q d fr er ev k => by cases ev; exact k _ H (Same.refl H) ⟨rfl, trivial⟩⟩
theorem evN_non {j} : EvN X ks F (.Constant .none j pos) (cC .non) :=
  ⟨tC .non, pe_non, fun σ H P ρ Q d fr er ev k => by cases ev; exact k _ H (Same.refl H) ⟨rfl, trivial⟩⟩
theorem evN_str {x j} : EvN X ks F (.Constant (.str x) j pos) (cC (.str x)) :=
  ⟨tC (.str x), pe_str, fun σ H P ρ Q d fr er ev k => by cases ev; exact k _ H (Same.refl H) ⟨rfl, trivial⟩⟩
/-- a constant of the module -/
def constV : D → Option V
  | .int i => some (.int i)
  | .str s => some (.str s)
  | .bl b => some (.bl b)
  | _ => none
theorem evN_glob {x : Str} {d : D} {v : V} {u : Value} (hc : constV d = some v) (hg : Gl X x) (hm : X.mg x = some u) (r : RelV v u) (hd : (x == ("__debug__" : Str)) = false) : EvN X ks F (.Name x pos) (cC d) := by
  refine ⟨tC v, pe_glob hg hm r hd, fun σ H P ρ Q d' fr er ev k => ?_⟩
  cases ev
  cases d <;> simp only [constV] at hc <;> first | cases hc | skip
  all_goals exact k _ H (Same.refl H) ⟨rfl, trivial⟩
/-- a def of the module, handed on -/
theorem evP_fn {x : Str} {a : Addr} (hg : Gl X x) (hm : X.mg x = some (.ref a)) (hd : (x == ("__debug__" : Str)) = false) : EvP X ks F (.Name x pos) (cC (.fn x)) := by
  refine ⟨tC (.ref a), pe_glob hg hm rfl hd, fun σ H P ρ Q d' fr er ev k => ?_⟩
  cases ev
  exact k _ H (Same.refl H) ⟨a, rfl, hm⟩

/-! ### argument lists -/
def cNil : SA := fun _ _ => some []
def cCons (f : SE) (g : SA) : SA := fun F ρ => (f F ρ).bind fun d => (g F ρ).bind fun ds => some (d :: ds)
theorem starEach_cons {e : Expr} {es : List Expr} {env : PySem.Env} (h : ∀ x p, e ≠ .Starred x p) : starEach (e :: es) env = (false, eval e env) :: starEach es env := by
  cases e <;> first | rfl | exact absurd rfl (h _ _)
def noStar : Expr → Bool
  | .Starred _ _ => false
  | _ => true
theorem noStar_ne {e : Expr} (h : noStar e = true) : ∀ x p, e ≠ .Starred x p := fun x p q => by rw [q] at h; cases h
theorem evA_nil {pk : List Kind} : EvA X ks F pk [] cNil :=
  ⟨tNil, pa_nil, fun σ H P ρ Q ds fr er ev k => by cases ev; exact k [] H (Same.refl H) rfl⟩
theorem evA_consE {pk : List Kind} {e : Expr} {es : List Expr} {f : SE} {g : SA} (hk : pk.headD .F = .F) (hs : noStar e = true) (h : EvE X ks F e f) (hr : EvA X ks F pk.tail es g) : EvA X ks F pk (e :: es) (cCons f g) := by
  obtain ⟨t, p, q⟩ := h.ex
  obtain ⟨t', p', q'⟩ := hr.ex
  refine ⟨tCons t t', pa_cons p p' (starEach_cons (noStar_ne hs)), fun σ H P ρ Q ds fr er ev k => ?_⟩
  obtain ⟨d, e1, ev⟩ := Option.bind_eq_some_iff.mp ev
  obtain ⟨ds', e2, ev⟩ := Option.bind_eq_some_iff.mp ev
  cases ev
  refine q σ H P ρ _ d fr er e1 fun v H1 s1 r1 => ?_
  refine q' σ H1 P ρ _ ds' (fr.same s1) (er.same s1) e2 fun vs H2 s2 r2 => ?_
  exact k _ H2 (s1.trans s2) ⟨v, vs, rfl, by rw [hk]; exact r1.same s2, r2⟩
theorem evA_consP {pk : List Kind} {e : Expr} {es : List Expr} {f : SE} {g : SA} (hk : pk.headD .F ≠ .F) (hs : noStar e = true) (h : EvP X ks F e f) (hr : EvA X ks F pk.tail es g) : EvA X ks F pk (e :: es) (cCons f g) := by
  obtain ⟨t, p, q⟩ := h.ex
  obtain ⟨t', p', q'⟩ := hr.ex
  refine ⟨tCons t t', pa_cons p p' (starEach_cons (noStar_ne hs)), fun σ H P ρ Q ds fr er ev k => ?_⟩
  obtain ⟨d, e1, ev⟩ := Option.bind_eq_some_iff.mp ev
  obtain ⟨ds', e2, ev⟩ := Option.bind_eq_some_iff.mp ev
  cases ev
  refine q σ H P ρ _ d fr er e1 fun v H1 s1 r1 => ?_
  refine q' σ H1 P ρ _ ds' (fr.same s1) (er.same s1) e2 fun vs H2 s2 r2 => ?_
  refine k _ H2 (s1.trans s2) ⟨v, vs, rfl, ?_, r2⟩
  have r3 := r1.same s2
  generalize pk.headD .F = z at hk ⊢
  cases z <;> first | exact absurd rfl hk | exact r3

theorem RepA.allF {mg : Str → Option Value} {P : Addr → Prop} {H : Hp} : ∀ {ds : List D} {vs : List V}, RepA mg P H [] ds vs → RepL P H ds vs
  | [], _, h => by unfold RepL; exact h
  | d :: ds, vs, h => by
    obtain ⟨v, r, e, h1, h2⟩ := h
    unfold RepL
    exact ⟨v, r, e, h1, RepA.allF h2⟩
theorem same_new {H : Hp} {p : Addr} {o : HO} (h : H p = none) : Same H (upd H p o) := fun b x e => by
  rw [L2.upd_ne (ne_of_none e h)]; exact e
theorem RepL.len {P : Addr → Prop} {H : Hp} : ∀ {ds : List D} {vs : List V}, RepL P H ds vs → vs.length = ds.length
  | [], _, h => by unfold RepL at h; rw [h]; rfl
  | d :: ds, vs, h => by
    unfold RepL at h
    obtain ⟨v, r, e, h1, h2⟩ := h
    rw [e, List.length_cons, List.length_cons, RepL.len h2]

/-- as long as the model has room for -/
def fits (n : Nat) : Bool := decide (n ≤ sizeLine)
def mkTup (ds : List D) : Option D := if fits ds.length then some (.tup ds) else none
def mkLst (ds : List D) : Option D := if fits ds.length then some (.lst ds) else none
theorem mkTup_some {ds : List D} {d : D} (h : mkTup ds = some d) : d = .tup ds ∧ ds.length ≤ sizeLine := by
  unfold mkTup at h; split at h
  · rename_i e; exact ⟨(Option.some.inj h).symm, of_decide_eq_true e⟩
  · cases h
theorem mkLst_some {ds : List D} {d : D} (h : mkLst ds = some d) : d = .lst ds ∧ ds.length ≤ sizeLine := by
  unfold mkLst at h; split at h
  · rename_i e; exact ⟨(Option.some.inj h).symm, of_decide_eq_true e⟩
  · cases h
def cTup (g : SA) : SE := fun F ρ => (g F ρ).bind mkTup
def cLst (g : SA) : SE := fun F ρ => (g F ρ).bind mkLst
theorem evN_tup {es : List Expr} {x1} {g : SA} (h : EvA X ks F [] es g) : EvN X ks F (.Tuple es x1 pos) (cTup g) := by
  obtain ⟨t, p, q⟩ := h.ex
  refine ⟨tTup t, pe_tup p, fun σ H P ρ Q d fr er ev k => ?_⟩
  obtain ⟨ds, e1, ev⟩ := Option.bind_eq_some_iff.mp ev
  obtain ⟨rfl, hl⟩ := mkTup_some ev
  refine q σ H P ρ _ ds fr er e1 fun vs H1 s1 r1 => ?_
  have r1 := r1.allF
  refine ⟨by rw [r1.len]; exact hl, fun p hp => ?_⟩
  refine k _ _ (s1.trans (same_new hp)) ⟨?_, trivial⟩
  unfold Rep
  exact ⟨p, vs, rfl, upd_same, r1.same (same_new hp)⟩
theorem evN_lst {es : List Expr} {g : SA} (h : EvA X ks F [] es g) : EvN X ks F (.List es pos) (cLst g) := by
  obtain ⟨t, p, q⟩ := h.ex
  refine ⟨tLst t, pe_lst p, fun σ H P ρ Q d fr er ev k => ?_⟩
  obtain ⟨ds, e1, ev⟩ := Option.bind_eq_some_iff.mp ev
  obtain ⟨rfl, hl⟩ := mkLst_some ev
  refine q σ H P ρ _ ds fr er e1 fun vs H1 s1 r1 => ?_
  have r1 := r1.allF
  refine ⟨by rw [r1.len]; exact hl, fun p hp => ?_⟩
  refine k _ _ (s1.trans (same_new hp)) ⟨?_, ?_⟩
  · unfold Rep
    exact ⟨p, vs, rfl, (fr.same s1) p hp, upd_same, r1.same (same_new hp)⟩
  · simp only [TopNew]
    intro a e; cases e; exact s1.free hp

/-! ### operators by values -/
/-- r serves op: where op of the trees is told, r leads there -/
def R2Ok (mg : Str → Option Value) (r : R2) (op : D → D → Option D) : Prop :=
  ∀ (P : Addr → Prop) (H : Hp) (x y d : D) (v w : V) (Q : VK), Fre P H → RepB mg P H x v → RepB mg P H y w → op x y = some d →
    (∀ z H', Same H H' → Rep P H' d z → TopNew H d z → Q z H') → r v w H Q
def cB (op : D → D → Option D) (f g : SE) : SE := fun F ρ => (f F ρ).bind fun x => (g F ρ).bind fun y => op x y
def R1Ok (mg : Str → Option Value) (r : V → Hp → VK → Prop) (op : D → Option D) : Prop :=
  ∀ (P : Addr → Prop) (H : Hp) (x d : D) (v : V) (Q : VK), Fre P H → RepB mg P H x v → op x = some d →
    (∀ z H', Same H H' → Rep P H' d z → TopNew H d z → Q z H') → r v H Q
def cU (op : D → Option D) (f : SE) : SE := fun F ρ => (f F ρ).bind op
theorem tOp_ok {r : R2} {op : D → D → Option D} {a b : Expr} {f g : SE} {ta tb : TE} (hr : R2Ok X.mg r op)
    (qa : ∀ σ H, Cn X.mg H ks F f σ (fun P d v H' => RepB X.mg P H' d v) ta) (qb : ∀ σ H, Cn X.mg H ks F g σ (fun P d v H' => RepB X.mg P H' d v) tb) :
    ∀ σ H, Cn X.mg H ks F (cB op f g) σ (fun P d v H' => Rep P H' d v ∧ TopNew H d v) (tOp r ta tb) := by
  intro σ H P ρ Q d fr er ev k
  obtain ⟨x, e1, ev⟩ := Option.bind_eq_some_iff.mp ev
  obtain ⟨y, e2, ev⟩ := Option.bind_eq_some_iff.mp ev
  refine qa σ H P ρ _ x fr er e1 fun v H1 s1 r1 => ?_
  refine qb σ H1 P ρ _ y (fr.same s1) (er.same s1) e2 fun w H2 s2 r2 => ?_
  exact hr P H2 x y d v w Q ((fr.same s1).same s2) (r1.same s2) r2 ev fun z H' s n tn => k z H' ((s1.trans s2).trans s) ⟨n, TopNew.back (s1.trans s2) tn⟩
theorem evN_bin {op : Operator} {r : R2} {o : D → D → Option D} {a b : Expr} {f g : SE} (ho : OpR X (binaryOp op) r) (hr : R2Ok X.mg r o) (ha : EvP X ks F a f) (hb : EvP X ks F b g) : EvN X ks F (.BinOp a op b pos) (cB o f g) := by
  obtain ⟨ta, pa, qa⟩ := ha.ex
  obtain ⟨tb, pb, qb⟩ := hb.ex
  exact ⟨tOp r ta tb, pe_op ho pa pb, tOp_ok (a := a) (b := b) hr qa qb⟩
theorem evN_un {op : UnaryOp} {r : V → Hp → VK → Prop} {o : D → Option D} {a : Expr} {f : SE} (ho : UnR X (unaryOp op) r) (hr : R1Ok X.mg r o) (ha : EvP X ks F a f) : EvN X ks F (.UnaryOp op a pos) (cU o f) := by
  obtain ⟨ta, pa, qa⟩ := ha.ex
  refine ⟨tUn r ta, pe_un ho pa, fun σ H P ρ Q d fr er ev k => ?_⟩
  obtain ⟨x, e1, ev⟩ := Option.bind_eq_some_iff.mp ev
  refine qa σ H P ρ _ x fr er e1 fun v H1 s1 r1 => ?_
  exact hr P H1 x d v Q (fr.same s1) r1 ev fun z H' s n tn => k z H' (s1.trans s) ⟨n, TopNew.back s1 tn⟩
theorem evN_cmp {op : CmpOp} {r : R2} {o : D → D → Option D} {a b : Expr} {f g : SE} (ho : OpR X (compareOp op) r) (hr : R2Ok X.mg r o) (hm : behindInMarks op b = false) (ha : EvP X ks F a f) (hb : EvP X ks F b g) : EvN X ks F (.Compare a [op] [b] pos) (cB o f g) := by
  obtain ⟨ta, pa, qa⟩ := ha.ex
  obtain ⟨tb, pb, qb⟩ := hb.ex
  exact ⟨tOp r ta tb, pe_cmpR ho pa pb hm, tOp_ok (a := a) (b := b) hr qa qb⟩
def boolD : D → Option Bool
  | .bl b => some b
  | _ => none
def cBT (op : D → D → Option D) (f g : SE) : SB := fun F ρ => (cB op f g F ρ).bind boolD
theorem boolD_some {d : D} {b : Bool} (h : boolD d = some b) : d = .bl b := by
  cases d <;> simp [boolD] at h
  rw [h]
theorem evT_cmp {op : CmpOp} {r : R2} {o : D → D → Option D} {a b : Expr} {f g : SE} (ho : OpR X (compareOp op) r) (hr : R2Ok X.mg r o) (hm : behindInMarks op b = false) (ha : EvP X ks F a f) (hb : EvP X ks F b g) : EvT X ks F (.Compare a [op] [b] pos) (cBT o f g) := by
  obtain ⟨ta, pa, qa⟩ := ha.ex
  obtain ⟨tb, pb, qb⟩ := hb.ex
  refine ⟨tTest (tOp r ta tb), pt_cmpR ho pa pb hm, fun σ H P ρ Q c fr er ev k => ?_⟩
  obtain ⟨d, e1, ev⟩ := Option.bind_eq_some_iff.mp ev
  refine tOp_ok (a := a) (b := b) hr qa qb σ H P ρ _ d fr er e1 fun v H1 s1 r1 => ?_
  have := boolD_some ev
  subst this
  exact ⟨c, by have := r1.1; simpa only [Rep] using this, k H1 s1⟩
/-- a < b < c -/
def cCh (o o' : D → D → Option D) (f g h : SE) : SE := fun F ρ => (f F ρ).bind fun x => (g F ρ).bind fun y => (o x y).bind fun z => (boolD z).bind fun c => if c then (h F ρ).bind fun w => o' y w else some (.bl false)
theorem evN_chain {op op' : CmpOp} {r r' : R2} {o o' : D → D → Option D} {a b c : Expr} {f g h : SE} (ho : OpR X (compareOp op) r) (hr : R2Ok X.mg r o) (ho' : OpR X (compareOp op') r') (hr' : R2Ok X.mg r' o')
    (ha : EvP X ks F a f) (hb : EvP X ks F b g) (hc : EvP X ks F c h) (hm : lastMarks [op, op'] [b, c] = false) : EvN X ks F (.Compare a [op, op'] [b, c] pos) (cCh o o' f g h) := by
  obtain ⟨ta, pa, qa⟩ := ha.ex
  obtain ⟨tb, pb, qb⟩ := hb.ex
  obtain ⟨tc, pc, qc⟩ := hc.ex
  refine ⟨tChain r r' ta tb tc, pe_chain ho ho' pa pb pc hm, fun σ H P ρ Q d fr er ev k => ?_⟩
  obtain ⟨x, e1, ev⟩ := Option.bind_eq_some_iff.mp ev
  obtain ⟨y, e2, ev⟩ := Option.bind_eq_some_iff.mp ev
  obtain ⟨z, e3, ev⟩ := Option.bind_eq_some_iff.mp ev
  obtain ⟨cc, e4, ev6⟩ := Option.bind_eq_some_iff.mp ev
  clear ev
  have := boolD_some e4
  subst this
  refine qa σ H P ρ _ x fr er e1 fun v H1 s1 r1 => ?_
  refine qb σ H1 P ρ _ y (fr.same s1) (er.same s1) e2 fun w H2 s2 r2 => ?_
  have f2 := (fr.same s1).same s2
  have er2 := (er.same s1).same s2
  refine hr P H2 x y _ v w _ f2 (r1.same s2) r2 e3 fun z H3 s3 n tn => ?_
  have n : z = .bl cc := by simpa only [Rep] using n
  refine ⟨cc, n, ?_⟩
  cases cc with
  | false =>
    rw [if_neg Bool.false_ne_true] at ev6 ⊢
    cases ev6
    exact k _ H3 ((s1.trans s2).trans s3) ⟨by simp only [Rep], trivial⟩
  | true =>
    rw [if_pos rfl] at ev6 ⊢
    obtain ⟨u, e5, ev7⟩ := Option.bind_eq_some_iff.mp ev6
    refine qc σ H3 P ρ _ u (f2.same s3) (er2.same s3) e5 fun w' H4 s4 r4 => ?_
    exact hr' P H4 y u d w w' Q ((f2.same s3).same s4) ((r2.same s3).same s4) r4 ev7 fun z H' s n tn => k z H' ((((s1.trans s2).trans s3).trans s4).trans s) ⟨n, TopNew.back (((s1.trans s2).trans s3).trans s4) tn⟩
end
end RE
/-! RE3: truth, tests, and, or, not, if; indexes and slices; built-ins by values. -/
namespace RE
open PySem PySem.Spec PyProof.Rows L2

/-- a value's truth -/
def truD : D → Option Bool
  | .non => some false
  | .bl b => some b
  | .int i => some (i != 0)
  | .str s => if fits s.length then some ((s.length : Int) != 0) else none
  | .lst xs => some (!xs.isEmpty)
  | .tup xs => some (!xs.isEmpty)
  | _ => none
theorem RepL.isEmpty {P : Addr → Prop} {H : Hp} {ds : List D} {vs : List V} (h : RepL P H ds vs) : vs.isEmpty = ds.isEmpty := by
  have := h.len
  cases ds <;> cases vs <;> simp_all
theorem tru_of {mg : Str → Option Value} {K : PySem.W.Frag} {P : Addr → Prop} {H : Hp} {d : D} {v : V} {b : Bool} (r : RepB mg P H d v) (h : truD d = some b) : TruV K v H b := by
  cases d <;> simp only [truD] at h <;> simp only [RepB, Rep] at r
  · cases h; subst r; rfl
  · cases h; subst r; rfl
  · cases h; subst r; rfl
  · split at h
    · rename_i e
      cases h; subst r
      exact ⟨of_decide_eq_true e, rfl⟩
    · cases h
  · cases h
    obtain ⟨a, vs, e, h1, h2⟩ := r
    subst e
    exact .inr (.inl ⟨vs, .inl (.inl h1), by rw [h2.isEmpty]⟩)
  · cases h
    obtain ⟨a, vs, e, h1, h2⟩ := r
    subst e
    exact .inl ⟨vs, .inl (.inl h1), by rw [h2.isEmpty]⟩
  · cases h
  · cases h
  · cases h

/-- its test is its value's truth -/
def plainTest : Expr → Bool
  | .UnaryOp .Not _ _ => false
  | .BoolOp _ _ _ => false
  | .IfExp _ _ _ _ => false
  | .Compare _ _ _ _ => false
  | _ => true
theorem isTrue_of {e : Expr} (h : plainTest e = true) (env : PySem.Env) : ∀ whole, isTrue e env whole = (do let v ← whole; standAt e.pos; holding [v] (truthy v)) := by
  cases e with
  | UnaryOp op x p => cases op <;> first | (intro w; rfl) | exact Bool.noConfusion h
  | BoolOp => cases h
  | IfExp => cases h
  | Compare => cases h
  | _ => intro w; rfl

section
variable {X : Cx} {ks : Ks} {F : Fn} {pos : Pos}
def cTr (f : SE) : SB := fun F ρ => (f F ρ).bind truD
theorem evT_truth {e : Expr} {f : SE} (hp : plainTest e = true) (h : EvP X ks F e f) : EvT X ks F e (cTr f) := by
  obtain ⟨t, p, q⟩ := h.ex
  refine ⟨_, pt_truth p (isTrue_of hp X.env), fun σ H P ρ Q b fr er ev k => ?_⟩
  obtain ⟨d, e1, ev⟩ := Option.bind_eq_some_iff.mp ev
  exact q σ H P ρ _ d fr er e1 fun v H1 s1 r1 => ⟨b, tru_of r1 ev, k H1 s1⟩
def cAndT (f g : SB) : SB := fun F ρ => (f F ρ).bind fun b => if b then g F ρ else some false
def cOrT (f g : SB) : SB := fun F ρ => (f F ρ).bind fun b => if b then some true else g F ρ
def cNotT (f : SB) : SB := fun F ρ => (f F ρ).map (!·)
theorem evW_and1 {a : Expr} {f : SB} (h : EvT X ks F a f) : EvW X ks F (.BoolOp .And [a] pos) f := let ⟨t, p, q⟩ := h.ex; ⟨t, pw_and1 p, q⟩
theorem evW_or1 {a : Expr} {f : SB} (h : EvT X ks F a f) : EvW X ks F (.BoolOp .Or [a] pos) f := let ⟨t, p, q⟩ := h.ex; ⟨t, pw_or1 p, q⟩
theorem evW_and {a b : Expr} {rest : List Expr} {f g : SB} (h : EvT X ks F a f) (h' : EvW X ks F (.BoolOp .And (b :: rest) pos) g) : EvW X ks F (.BoolOp .And (a :: b :: rest) pos) (cAndT f g) := by
  obtain ⟨t, p, q⟩ := h.ex
  obtain ⟨t', p', q'⟩ := h'.ex
  refine ⟨tAnd t t', pw_and p p', fun σ H P ρ Q c fr er ev k => ?_⟩
  obtain ⟨b, e1, ev⟩ := Option.bind_eq_some_iff.mp ev
  refine q σ H P ρ _ b fr er e1 fun H1 s1 => ?_
  cases b with
  | true => rw [if_pos rfl] at ev ⊢; exact q' σ H1 P ρ _ c (fr.same s1) (er.same s1) ev fun H2 s2 => k H2 (s1.trans s2)
  | false => rw [if_neg Bool.false_ne_true] at ev ⊢; cases ev; exact k H1 s1
theorem evW_or {a b : Expr} {rest : List Expr} {f g : SB} (h : EvT X ks F a f) (h' : EvW X ks F (.BoolOp .Or (b :: rest) pos) g) : EvW X ks F (.BoolOp .Or (a :: b :: rest) pos) (cOrT f g) := by
  obtain ⟨t, p, q⟩ := h.ex
  obtain ⟨t', p', q'⟩ := h'.ex
  refine ⟨tOr t t', pw_or p p', fun σ H P ρ Q c fr er ev k => ?_⟩
  obtain ⟨b, e1, ev⟩ := Option.bind_eq_some_iff.mp ev
  refine q σ H P ρ _ b fr er e1 fun H1 s1 => ?_
  cases b with
  | false => rw [if_neg Bool.false_ne_true] at ev ⊢; exact q' σ H1 P ρ _ c (fr.same s1) (er.same s1) ev fun H2 s2 => k H2 (s1.trans s2)
  | true => rw [if_pos rfl] at ev ⊢; cases ev; exact k H1 s1
theorem EvW.toT {e : Expr} {f : SB} (h : EvW X ks F e f) : EvT X ks F e f := let ⟨t, p, q⟩ := h.ex; ⟨t, p.pt, q⟩
theorem evT_not {a : Expr} {f : SB} (h : EvT X ks F a f) : EvT X ks F (.UnaryOp .Not a pos) (cNotT f) := by
  obtain ⟨t, p, q⟩ := h.ex
  refine ⟨tNot t, pt_not p, fun σ H P ρ Q c fr er ev k => ?_⟩
  obtain ⟨b, e1, ev⟩ := Option.map_eq_some_iff.mp ev
  subst ev
  exact q σ H P ρ _ b fr er e1 fun H1 s1 => k H1 s1
theorem evT_chain {op op' : CmpOp} {r r' : R2} {o o' : D → D → Option D} {a b c : Expr} {f g h : SE} (ho : OpR X (compareOp op) r) (hr : R2Ok X.mg r o) (ho' : OpR X (compareOp op') r') (hr' : R2Ok X.mg r' o')
    (ha : EvP X ks F a f) (hb : EvP X ks F b g) (hc : EvP X ks F c h) (hm : lastMarks [op, op'] [b, c] = false) : EvT X ks F (.Compare a [op, op'] [b, c] pos) (fun F ρ => (cCh o o' f g h F ρ).bind boolD) := by
  obtain ⟨ta, pa, qa⟩ := ha.ex
  obtain ⟨tb, pb, qb⟩ := hb.ex
  obtain ⟨tc, pc, qc⟩ := hc.ex
  refine ⟨tTest (tChain r r' ta tb tc), pt_chain ho ho' pa pb pc hm, fun σ H P ρ Q cc fr er ev k => ?_⟩
  obtain ⟨d, e0, ev'⟩ := Option.bind_eq_some_iff.mp ev
  obtain ⟨x, e1, ev1⟩ := Option.bind_eq_some_iff.mp e0
  obtain ⟨y, e2, ev2⟩ := Option.bind_eq_some_iff.mp ev1
  obtain ⟨z, e3, ev3⟩ := Option.bind_eq_some_iff.mp ev2
  obtain ⟨c1, e4, ev4⟩ := Option.bind_eq_some_iff.mp ev3
  have hz := boolD_some e4
  subst hz
  have hd := boolD_some ev'
  subst hd
  clear ev ev' e0 ev1 ev2 ev3
  refine qa σ H P ρ _ x fr er e1 fun v H1 s1 r1 => ?_
  refine qb σ H1 P ρ _ y (fr.same s1) (er.same s1) e2 fun w H2 s2 r2 => ?_
  have f2 := (fr.same s1).same s2
  have er2 := (er.same s1).same s2
  refine hr P H2 x y _ v w _ f2 (r1.same s2) r2 e3 fun z H3 s3 n tn => ?_
  have n : z = .bl c1 := by simpa only [Rep] using n
  refine ⟨c1, n, ?_⟩
  cases c1 with
  | false =>
    rw [if_neg Bool.false_ne_true] at ev4 ⊢
    cases ev4
    exact ⟨false, rfl, k H3 ((s1.trans s2).trans s3)⟩
  | true =>
    rw [if_pos rfl] at ev4 ⊢
    obtain ⟨u, e5, ev7⟩ := Option.bind_eq_some_iff.mp ev4
    refine qc σ H3 P ρ _ u (f2.same s3) (er2.same s3) e5 fun w' H4 s4 r4 => ?_
    refine hr' P H4 y u _ w w' _ ((f2.same s3).same s4) ((r2.same s3).same s4) r4 ev7 fun z H' s n tn => ⟨cc, by simpa only [Rep] using n, k H' ((((s1.trans s2).trans s3).trans s4).trans s)⟩

/-! ### and, or, not, if as values -/
def cOr (f g : SE) : SE := fun F ρ => (f F ρ).bind fun d => (truD d).bind fun b => if b then some d else g F ρ
def cAnd (f g : SE) : SE := fun F ρ => (f F ρ).bind fun d => (truD d).bind fun b => if b then g F ρ else some d
def cNot (f : SE) : SE := fun F ρ => (f F ρ).bind fun d => (truD d).map fun b => .bl (!b)
theorem evE_one {op} {a : Expr} {f : SE} (h : EvE X ks F a f) : EvE X ks F (.BoolOp op [a] pos) f := let ⟨t, p, q⟩ := h.ex; ⟨t, pe_one p, q⟩
theorem evE_or {a b : Expr} {rest : List Expr} {f g : SE} (h : EvE X ks F a f) (h' : EvE X ks F (.BoolOp .Or (b :: rest) pos) g) : EvE X ks F (.BoolOp .Or (a :: b :: rest) pos) (cOr f g) := by
  obtain ⟨t, p, q⟩ := h.ex
  obtain ⟨t', p', q'⟩ := h'.ex
  refine ⟨tOrT X.K t t', pe_orT p p', fun σ H P ρ Q d fr er ev k => ?_⟩
  obtain ⟨x, e1, ev1⟩ := Option.bind_eq_some_iff.mp ev
  obtain ⟨b, e2, ev2⟩ := Option.bind_eq_some_iff.mp ev1
  refine q σ H P ρ _ x fr er e1 fun v H1 s1 r1 => ⟨b, tru_of (mg := X.mg) (Rep.toB r1) e2, ?_⟩
  cases b with
  | true => rw [if_pos rfl] at ev2 ⊢; cases ev2; exact k v H1 s1 r1
  | false => rw [if_neg Bool.false_ne_true] at ev2 ⊢; exact q' σ H1 P ρ _ d (fr.same s1) (er.same s1) ev2 fun v H2 s2 r2 => k v H2 (s1.trans s2) r2
theorem evE_and {a b : Expr} {rest : List Expr} {f g : SE} (h : EvE X ks F a f) (h' : EvE X ks F (.BoolOp .And (b :: rest) pos) g) : EvE X ks F (.BoolOp .And (a :: b :: rest) pos) (cAnd f g) := by
  obtain ⟨t, p, q⟩ := h.ex
  obtain ⟨t', p', q'⟩ := h'.ex
  refine ⟨tAndT X.K t t', pe_andT p p', fun σ H P ρ Q d fr er ev k => ?_⟩
  obtain ⟨x, e1, ev1⟩ := Option.bind_eq_some_iff.mp ev
  obtain ⟨b, e2, ev2⟩ := Option.bind_eq_some_iff.mp ev1
  refine q σ H P ρ _ x fr er e1 fun v H1 s1 r1 => ⟨b, tru_of (mg := X.mg) (Rep.toB r1) e2, ?_⟩
  cases b with
  | false => rw [if_neg Bool.false_ne_true] at ev2 ⊢; cases ev2; exact k v H1 s1 r1
  | true => rw [if_pos rfl] at ev2 ⊢; exact q' σ H1 P ρ _ d (fr.same s1) (er.same s1) ev2 fun v H2 s2 r2 => k v H2 (s1.trans s2) r2
theorem evN_not {a : Expr} {f : SE} (h : EvP X ks F a f) : EvN X ks F (.UnaryOp .Not a pos) (cNot f) := by
  obtain ⟨t, p, q⟩ := h.ex
  refine ⟨tNotT X.K t, pe_notT p, fun σ H P ρ Q d fr er ev k => ?_⟩
  obtain ⟨x, e1, ev1⟩ := Option.bind_eq_some_iff.mp ev
  obtain ⟨b, e2, ev2⟩ := Option.map_eq_some_iff.mp ev1
  subst ev2
  exact q σ H P ρ _ x fr er e1 fun v H1 s1 r1 => ⟨b, tru_of r1 e2, k _ H1 s1 ⟨rfl, trivial⟩⟩
def cIf (c : SB) (f g : SE) : SE := fun F ρ => (c F ρ).bind fun b => if b then f F ρ else g F ρ
theorem evE_if {c a b : Expr} {h : SB} {f g : SE} (hc : EvT X ks F c h) (ha : EvE X ks F a f) (hb : EvE X ks F b g) : EvE X ks F (.IfExp c a b pos) (cIf h f g) := by
  obtain ⟨t, p, q⟩ := hc.ex
  obtain ⟨ta, pa, qa⟩ := ha.ex
  obtain ⟨tb, pb, qb⟩ := hb.ex
  refine ⟨tIf t ta tb, pe_ifExp p pa pb, fun σ H P ρ Q d fr er ev k => ?_⟩
  obtain ⟨b, e1, ev1⟩ := Option.bind_eq_some_iff.mp ev
  refine q σ H P ρ _ b fr er e1 fun H1 s1 => ?_
  cases b with
  | true => rw [if_pos rfl] at ev1 ⊢; exact qa σ H1 P ρ _ d (fr.same s1) (er.same s1) ev1 fun v H2 s2 r2 => k v H2 (s1.trans s2) r2
  | false => rw [if_neg Bool.false_ne_true] at ev1 ⊢; exact qb σ H1 P ρ _ d (fr.same s1) (er.same s1) ev1 fun v H2 s2 r2 => k v H2 (s1.trans s2) r2
theorem evP_if {c a b : Expr} {h : SB} {f g : SE} (hc : EvT X ks F c h) (ha : EvP X ks F a f) (hb : EvP X ks F b g) : EvP X ks F (.IfExp c a b pos) (cIf h f g) := by
  obtain ⟨t, p, q⟩ := hc.ex
  obtain ⟨ta, pa, qa⟩ := ha.ex
  obtain ⟨tb, pb, qb⟩ := hb.ex
  refine ⟨tIf t ta tb, pe_ifExp p pa pb, fun σ H P ρ Q d fr er ev k => ?_⟩
  obtain ⟨b, e1, ev1⟩ := Option.bind_eq_some_iff.mp ev
  refine q σ H P ρ _ b fr er e1 fun H1 s1 => ?_
  cases b with
  | true => rw [if_pos rfl] at ev1 ⊢; exact qa σ H1 P ρ _ d (fr.same s1) (er.same s1) ev1 fun v H2 s2 r2 => k v H2 (s1.trans s2) r2
  | false => rw [if_neg Bool.false_ne_true] at ev1 ⊢; exact qb σ H1 P ρ _ d (fr.same s1) (er.same s1) ev1 fun v H2 s2 r2 => k v H2 (s1.trans s2) r2
theorem evN_if {c a b : Expr} {h : SB} {f g : SE} (hc : EvT X ks F c h) (ha : EvN X ks F a f) (hb : EvN X ks F b g) : EvN X ks F (.IfExp c a b pos) (cIf h f g) := by
  obtain ⟨t, p, q⟩ := hc.ex
  obtain ⟨ta, pa, qa⟩ := ha.ex
  obtain ⟨tb, pb, qb⟩ := hb.ex
  refine ⟨tIf t ta tb, pe_ifExp p pa pb, fun σ H P ρ Q d fr er ev k => ?_⟩
  obtain ⟨b, e1, ev1⟩ := Option.bind_eq_some_iff.mp ev
  refine q σ H P ρ _ b fr er e1 fun H1 s1 => ?_
  cases b with
  | true => rw [if_pos rfl] at ev1 ⊢; exact qa σ H1 P ρ _ d (fr.same s1) (er.same s1) ev1 fun v H2 s2 r2 => k v H2 (s1.trans s2) ⟨r2.1, TopNew.back s1 r2.2⟩
  | false => rw [if_neg Bool.false_ne_true] at ev1 ⊢; exact qb σ H1 P ρ _ d (fr.same s1) (er.same s1) ev1 fun v H2 s2 r2 => k v H2 (s1.trans s2) ⟨r2.1, TopNew.back s1 r2.2⟩

/-! ### built-ins by values -/
def RcOk (mg : Str → Option Value) (r : List V → Hp → VK → Prop) (op : List D → Option D) : Prop :=
  ∀ (P : Addr → Prop) (H : Hp) (xs : List D) (d : D) (vs : List V) (Q : VK), Fre P H → RepA mg P H [.B, .B, .B, .B] xs vs → op xs = some d →
    (∀ z H', Same H H' → Rep P H' d z → TopNew H d z → Q z H') → r vs H Q
def cCall (op : List D → Option D) (g : SA) : SE := fun F ρ => (g F ρ).bind op
theorem notDbg {x : Str} (h : (x == ("__debug__" : Str)) = false) : (x == ("__debug__" : Str)) = false := h
theorem backTo_any {pos : Pos} : ∀ {es : List Expr} {env : PySem.Env}, es.all noStar = true → (backTo pos (starEach es env)).any (·.1) = false := by
  intro es env h
  have : ∀ (es : List Expr), es.all noStar = true → ∀ p ∈ starEach es env, p.1 = false := by
    intro es
    induction es with
    | nil => intro _ p hp; cases hp
    | cons e es ih =>
      intro h p hp
      rw [List.all_cons, Bool.and_eq_true] at h
      rw [starEach_cons (noStar_ne h.1)] at hp
      rcases List.mem_cons.mp hp with rfl | hp
      · rfl
      · exact ih h.2 p hp
  have h2 := this es h
  generalize starEach es env = l at h2 ⊢
  cases l with
  | nil => rfl
  | cons a l =>
    rw [List.any_eq_false]
    intro p hp
    simp only [Bool.not_eq_true]
    unfold backTo at hp
    obtain ⟨q, hq, e⟩ := List.mem_map.mp hp
    rw [← e]
    exact h2 q hq
theorem evN_callB {x : Str} {p : Pos} {id : String} {r : List V → Hp → VK → Prop} {op : List D → Option D} {e : Expr} {es : List Expr} {g : SA} (hc : CallR X (.builtin id) r) (hr : RcOk X.mg r op) (hg : Gl X x) (hm : X.mg x = none) (hv : bootBuiltins x = some (.builtin id))
    (hn : x ≠ "__name__") (hdb : (x == ("__debug__" : Str)) = false) (hs : (e :: es).all noStar = true) (ha : EvA X ks F [.B, .B, .B, .B] (e :: es) g) : EvN X ks F (.Call (.Name x p) (e :: es) [] pos) (cCall op g) := by
  obtain ⟨t, pt, q⟩ := ha.ex
  have hs' := hs
  rw [List.all_cons, Bool.and_eq_true] at hs'
  refine ⟨tCB r t, pe_callB hc hg hm hv pt hn hdb (starEach_cons (noStar_ne hs'.1)) (backTo_any hs'.2), fun σ H P ρ Q d fr er ev k => ?_⟩
  obtain ⟨ds, e1, ev1⟩ := Option.bind_eq_some_iff.mp ev
  refine q σ H P ρ _ ds fr er e1 fun vs H1 s1 r1 => ?_
  exact hr P H1 ds d vs Q (fr.same s1) r1 ev1 fun z H' s n tn => k z H' (s1.trans s) ⟨n, TopNew.back s1 tn⟩
theorem evN_callT {x : Str} {p : Pos} {T : String} {r : List V → Hp → VK → Prop} {op : List D → Option D} {e : Expr} {es : List Expr} {g : SA} (hc : CallR X (.type T) r) (hr : RcOk X.mg r op) (hg : Gl X x) (hm : X.mg x = none) (hv : bootBuiltins x = some (.type T))
    (hn : x ≠ "__name__") (hdb : (x == ("__debug__" : Str)) = false) (hs : (e :: es).all noStar = true) (ha : EvA X ks F [.B, .B, .B, .B] (e :: es) g) : EvN X ks F (.Call (.Name x p) (e :: es) [] pos) (cCall op g) := by
  obtain ⟨t, pt, q⟩ := ha.ex
  have hs' := hs
  rw [List.all_cons, Bool.and_eq_true] at hs'
  refine ⟨tCB r t, pe_callTy hc hg hm hv pt hn hdb (starEach_cons (noStar_ne hs'.1)) (backTo_any hs'.2), fun σ H P ρ Q d fr er ev k => ?_⟩
  obtain ⟨ds, e1, ev1⟩ := Option.bind_eq_some_iff.mp ev
  refine q σ H P ρ _ ds fr er e1 fun vs H1 s1 r1 => ?_
  exact hr P H1 ds d vs Q (fr.same s1) r1 ev1 fun z H' s n tn => k z H' (s1.trans s) ⟨n, TopNew.back s1 tn⟩
end
end RE
/-! RE4: operators on trees: arithmetic, == and <, in, is. -/
namespace L2
open PySem PySem.Spec PyProof.Rows
set_option maxHeartbeats 4000000
theorem tuple_mul_one (l : Addr) (items : Array Value) (n : Nat) (dd : Option Addr) (sl : Array (Option Value)) (u : Tok) :
    Meets (Builtin.«tuple.__mul__» ⟨[.ref l, .int 1 u], []⟩) (fun _ R s => s.heap.get? l = some { cls := .type "tuple", dict := dd, data := .seq items n, slots := sl } ∧ R (.ok (.ret (Value.ref l))) s) :=
  .of_wp fun prog w A R s h => by
    obtain ⟨hp, g, d, tk, os⟩ := s
    obtain ⟨hl, h⟩ := h
    have f1 := AutoSeq1.idx_int
    have c0 : (decide ((1 : Int) < -(2 ^ 63)) || decide ((1 : Int) ≥ 2 ^ 63)) = false := by decide
    have c1 : (items.isEmpty || (1 : Int) == 1) = true := by simp
    wp_walk using wpAny_loadPart' hl
    repeat (first
      | (refine wpAny_ite_false (decide_eq_false (by rw [c0]; exact Bool.false_ne_true)) ?_; wp_walk using wpAny_loadPart' hl)
      | (refine wpAny_ite_true (decide_eq_true c1) ?_; wp_walk using wpAny_loadPart' hl))
    all_goals (first | exact ⟨_, rfl, h⟩ | skip)
/-- a tuple once: the same one -/
def rRepT1 (K : PySem.W.Frag) : R2 := fun x y H Q => ∃ l xs, x = .ref l ∧ y = .int 1 ∧ SqT K H l xs ∧ Q (.ref l) H
theorem op_repT1 {X : Cx} : OpR X (binaryOp .Mult) (rRepT1 X.K) := by
  intro pins s σ H x y v u Q I rx ry h
  obtain ⟨l, xs, rfl, rfl, hT, q⟩ := h
  cases rx
  obtain ⟨t, rfl⟩ := ry
  obtain ⟨its, r, ⟨⟨cls, dd, data, sl⟩, ho, hc, n, hd⟩, hs⟩ := I.tuple hT
  simp only at hc hd
  subst hc hd
  refine wpAny_binaryOp_repeat_ref (T := "tuple") (U := "int") (by decide) ⟨_, ho, rfl⟩ (fun s' => typeIs_int s' 1 t) noFill_tuple_mul F.fills_int_mul F.slot_int_rmul repeat_tuple F.slot_int_index.lookup
    (call_meets F.slot_int_rmul (typeIs_int s 1 t) F.entry_int_rmul (F.args_int_rmul_2 _ _) (int_rmul_tuple 1 t l its.toArray n dd sl)
      ⟨ho, rfl, ⟨_, ho, rfl⟩, call_meets F.slot_tuple_mul ⟨_, ho, rfl⟩ F.entry_tuple_mul (F.args_tuple_mul_2 _ _) (tuple_mul_one l its.toArray n dd sl t) ⟨ho, ?_⟩⟩)
  exact ⟨.ref l, H, I, rfl, q⟩
theorem foldl_repN (its : Array Nat) : ∀ (m : Nat) (acc : Array Nat), (List.replicate m its).foldl (· ++ ·) acc = (acc.toList ++ (List.replicate m its.toList).flatten).toArray
  | 0, acc => by simp
  | m + 1, acc => by
    rw [List.replicate_succ, List.foldl_cons, foldl_repN its m, List.replicate_succ, List.flatten_cons, Array.toList_append, List.append_assoc]
/-- a text so many times -/
def mulS (z : Str) (k : Int) : Str := ⟨(List.replicate k.toNat z.cps.toList).flatten.toArray⟩
theorem mulS_len (z : Str) (k : Int) : (mulS z k).length = k.toNat * z.length := by
  show ((List.replicate k.toNat z.cps.toList).flatten.toArray).size = _
  rw [List.size_toArray, PyProof.Rows.lm_len_rep_flat, Array.length_toList]
  rfl
def rMulS : R2 := fun x y H Q => ∃ z k, x = .str z ∧ y = .int k ∧ 1 ≤ k ∧ k ≤ 1000 ∧ z.length ≤ 1000 ∧ Q (.str (mulS z k)) H
theorem op_mulS {X : Cx} : OpR X (binaryOp .Mult) rMulS := by
  intro pins s σ H x y v u Q I rx ry h
  obtain ⟨z, k, rfl, rfl, h1, h2, hz, q⟩ := h
  obtain ⟨t, rfl⟩ := (show ∃ t, v = .str z t from rx)
  obtain ⟨t', rfl⟩ := ry
  have hle : k.toNat * z.length ≤ 1000 * 1000 := Nat.mul_le_mul (by omega) hz
  have hfl : (⟨(List.replicate k.toNat z.cps).foldl (· ++ ·) #[]⟩ : Str) = mulS z k := by
    have := foldl_repN z.cps k.toNat #[]
    unfold mulS
    rw [this]
    simp
  have hlen := mulS_len z k
  refine P.mul_str ?_ (fun _ _ => ?_) (fun _ _ => ?_) ?_
  · rw [decide_eq_false (by omega), decide_eq_false (by omega)]; rfl
  · have : (2 ^ 63 - 1) / k ≥ 1000 := by
      refine Int.le_ediv_of_mul_le (by omega) ?_
      omega
    omega
  · unfold Builtin.Str.tooLong
    exact decide_eq_false (by rw [sizeLine_eq]; rw [Nat.mul_comm]; omega)
  · rw [if_neg (by omega)]
    by_cases c : (k == 1 || z.length == 0) = true
    · rw [if_pos c]
      have e : mulS z k = z := by
        unfold mulS
        rw [Bool.or_eq_true, beq_iff_eq, beq_iff_eq] at c
        rcases c with c | c
        · subst c
          show (⟨(List.replicate 1 z.cps.toList).flatten.toArray⟩ : Str) = z
          simp
        · have : z.cps.toList = [] := List.eq_nil_of_length_eq_zero (by rw [Array.length_toList]; exact c)
          have e2 : z.cps = #[] := by
            rw [← Array.toArray_toList (xs := z.cps), this]
          cases z with
          | mk cs => simp only at e2; subst e2; simp
      rw [e] at q
      exact ⟨.str z, H, I, ⟨t, rfl⟩, q⟩
    · rw [if_neg c, hfl]
      exact ⟨by rw [hlen, sizeLine_eq]; omega, .str _, H, I.tok _, ⟨_, rfl⟩, q⟩
end L2
namespace RE
open PySem PySem.Spec PyProof.Rows L2

/-! ### trees as the library's data -/
mutual
def toP : D → PyData
  | .non => .none
  | .bl b => .bool b
  | .int i => .int i
  | .str s => .str s
  | .tup xs => .tuple (toPs xs)
  | .lst xs => .list (toPs xs)
  | .dic _ _ => .none
  | .scr _ => .none
  | .fn _ => .none
def toPs : List D → List PyData
  | [] => []
  | d :: ds => toP d :: toPs ds
end
theorem toPs_map : ∀ ds : List D, toPs ds = ds.map toP
  | [] => by simp only [toPs, List.map_nil]
  | d :: ds => by simp only [toPs, List.map_cons, toPs_map ds]
/-- no dict, no def, no script within; at most so deep -/
def pd : Nat → D → Bool
  | _, .non => true
  | _, .bl _ => true
  | _, .int _ => true
  | _, .str _ => true
  | n + 1, .tup xs => xs.all (pd n)
  | n + 1, .lst xs => xs.all (pd n)
  | _, _ => false
theorem pds_ok {n : Nat} (ih : ∀ d, pd n d = true → (toP d).plain = true ∧ (toP d).depth ≤ n) : ∀ {xs : List D}, xs.all (pd n) = true → PyData.plainAll (toPs xs) = true ∧ PyData.depthAll (toPs xs) ≤ n
  | [], _ => by simp [toPs, PyData.plainAll, PyData.depthAll]
  | d :: ds, h => by
    rw [List.all_cons, Bool.and_eq_true] at h
    have h1 := ih d h.1
    have h2 := pds_ok ih h.2
    simp only [toPs, PyData.plainAll, PyData.depthAll, Bool.and_eq_true]
    exact ⟨⟨h1.1, h2.1⟩, Nat.max_le.mpr ⟨h1.2, h2.2⟩⟩
theorem pd_ok : ∀ (n : Nat) (d : D), pd n d = true → (toP d).plain = true ∧ (toP d).depth ≤ n
  | n, .non, _ => by simp [toP, PyData.plain, PyData.depth]
  | n, .bl b, _ => by simp [toP, PyData.plain, PyData.depth]
  | n, .int i, _ => by simp [toP, PyData.plain, PyData.depth]
  | n, .str s, _ => by simp [toP, PyData.plain, PyData.depth]
  | 0, .tup xs, h => by simp [pd] at h
  | 0, .lst xs, h => by simp [pd] at h
  | n + 1, .tup xs, h => by
    have := pds_ok (pd_ok n) (xs := xs) (by simpa only [pd] using h)
    simp only [toP, PyData.plain, PyData.depth]
    exact ⟨this.1, Nat.succ_le_succ this.2⟩
  | n + 1, .lst xs, h => by
    have := pds_ok (pd_ok n) (xs := xs) (by simpa only [pd] using h)
    simp only [toP, PyData.plain, PyData.depth]
    exact ⟨this.1, Nat.succ_le_succ this.2⟩
  | n, .dic _ _, h => by cases n <;> simp [pd] at h
  | n, .scr _, h => by cases n <;> simp [pd] at h
  | n, .fn _, h => by cases n <;> simp [pd] at h

mutual
theorem Rep.dp {K : PySem.W.Frag} {P : Addr → Prop} {H : Hp} : ∀ (d : D) (v : V), (toP d).plain = true → (∀ t f, d ≠ .dic t f) → (∀ f, d ≠ .scr f) → (∀ n x, pd n d = x → True) → Rep P H d v → (∃ n, pd n d = true) → Dp K H v (toP d)
  | .non, v, _, _, _, _, h, _ => by simp only [Rep] at h; subst h; simp only [toP]; exact .non
  | .bl b, v, _, _, _, _, h, _ => by simp only [Rep] at h; subst h; simp only [toP]; exact .bl b
  | .int i, v, _, _, _, _, h, _ => by simp only [Rep] at h; subst h; simp only [toP]; exact .int i
  | .str s, v, _, _, _, _, h, _ => by simp only [Rep] at h; subst h; simp only [toP]; exact .str s
  | .tup ds, v, _, _, _, _, h, ⟨n, hn⟩ => by
    simp only [Rep] at h
    obtain ⟨a, vs, rfl, h1, h2⟩ := h
    cases n with
    | zero => simp [pd] at hn
    | succ n => simp only [toP]; exact .tup (SqT.of h1) (RepL.dp ds vs h2 ⟨n, by simpa only [pd] using hn⟩)
  | .lst ds, v, _, _, _, _, h, ⟨n, hn⟩ => by
    simp only [Rep] at h
    obtain ⟨a, vs, rfl, _, h1, h2⟩ := h
    cases n with
    | zero => simp [pd] at hn
    | succ n => simp only [toP]; exact .lst (SqL.of h1) (RepL.dp ds vs h2 ⟨n, by simpa only [pd] using hn⟩)
  | .dic t kvs, v, _, hd, _, _, _, _ => absurd rfl (hd t kvs)
  | .scr ns, v, _, _, hs, _, _, _ => absurd rfl (hs ns)
  | .fn f, v, _, _, _, _, h, _ => by simp only [Rep] at h
theorem RepL.dp {K : PySem.W.Frag} {P : Addr → Prop} {H : Hp} : ∀ (ds : List D) (vs : List V), RepL P H ds vs → (∃ n, ds.all (pd n) = true) → DpAll K H vs (toPs ds)
  | [], vs, h, _ => by simp only [RepL] at h; subst h; simp only [toPs]; exact .nil
  | d :: ds, vs, h, ⟨n, hn⟩ => by
    simp only [RepL] at h
    obtain ⟨v, r, rfl, h1, h2⟩ := h
    rw [List.all_cons, Bool.and_eq_true] at hn
    simp only [toPs]
    refine .cons (Rep.dp d v (pd_ok n d hn.1).1 (fun t f e => ?_) (fun f e => ?_) (fun _ _ _ => trivial) h1 ⟨n, hn.1⟩) (RepL.dp ds r h2 ⟨n, hn.2⟩)
    · subst e; have := hn.1; cases n <;> simp [pd] at this
    · subst e; have := hn.1; cases n <;> simp [pd] at this
end
theorem RepB.dp {mg : Str → Option Value} {K : PySem.W.Frag} {P : Addr → Prop} {H : Hp} {d : D} {v : V} {n : Nat} (h : RepB mg P H d v) (hn : pd n d = true) : Dp K H v (toP d) := by
  cases d with
  | non => simp only [RepB] at h; subst h; simp only [toP]; exact .non
  | bl b => simp only [RepB] at h; subst h; simp only [toP]; exact .bl b
  | int i => simp only [RepB] at h; subst h; simp only [toP]; exact .int i
  | str s => simp only [RepB] at h; subst h; simp only [toP]; exact .str s
  | tup ds =>
    simp only [RepB, Rep] at h
    obtain ⟨a, vs, rfl, h1, h2⟩ := h
    cases n with
    | zero => simp [pd] at hn
    | succ n => simp only [toP]; exact .tup (SqT.of h1) (RepL.dp ds vs h2 ⟨n, by simpa only [pd] using hn⟩)
  | lst ds =>
    simp only [RepB] at h
    obtain ⟨a, vs, rfl, h1, h2⟩ := h
    cases n with
    | zero => simp [pd] at hn
    | succ n => simp only [toP]; exact .lst (SqL.of h1) (RepL.dp ds vs h2 ⟨n, by simpa only [pd] using hn⟩)
  | dic t kvs => cases n <;> simp [pd] at hn
  | scr ns => cases n <;> simp [pd] at hn
  | fn f => cases n <;> simp [pd] at hn

/-- == of trees, as Python says of plain ones -/
def eqv (d e : D) : Bool := PyData.eqv (toP d) (toP e)
def eqvL (ds es : List D) : Bool := PyData.eqvAll (toPs ds) (toPs es)
/-- < of trees that are alike -/
def ltv (d e : D) : Bool := PySem.W.dataLt (toP d) (toP e)
def alk (d e : D) : Bool := PySem.W.alike (toP d) (toP e)
def pd2 (d e : D) : Bool := pd 64 d && pd 64 e
def eqD (d e : D) : Option D := if pd2 d e then some (.bl (eqv d e)) else none
/-- d != {} of a dict -/
def neDic : D → D → Option D
  | .dic false kvs, .dic false [] => some (.bl (!kvs.isEmpty))
  | _, _ => none
def neD (d e : D) : Option D := if pd2 d e then some (.bl (!eqv d e)) else neDic d e
def isNon : D → Bool
  | .non => true
  | _ => false
def cmpOk (d e : D) : Bool := pd2 d e && alk d e && !isNon d
def ltD (d e : D) : Option D := if cmpOk d e then some (.bl (ltv d e)) else none
def gtD (d e : D) : Option D := if cmpOk d e then some (.bl (ltv e d)) else none
def leD (d e : D) : Option D := if cmpOk d e then some (.bl (!ltv e d)) else none
def geD (d e : D) : Option D := if cmpOk d e then some (.bl (!ltv d e)) else none

theorem isNon_toP {d : D} {n : Nat} (h : pd n d = true) (hn : isNon d = false) : toP d ≠ .none := by
  cases d <;> simp only [toP] <;> first | (intro e; cases e; done) | skip
  · cases hn
  · cases n <;> simp [pd] at h
  · cases n <;> simp [pd] at h
  · cases n <;> simp [pd] at h

section
variable {X : Cx}
/-- by data: what a comparison gives on two things that read as data -/
def rData (K : PySem.W.Frag) (ok : PyData → PyData → Prop) (g : PyData → PyData → Bool) : R2 := fun x y H Q => ∃ d e, Dp K H x d ∧ Dp K H y e ∧ d.plain = true ∧ e.plain = true ∧ d.depth ≤ 64 ∧ e.depth ≤ 64 ∧ ok d e ∧ Q (.bl (g d e)) H
theorem op_data {op : CmpOp} {ok : PyData → PyData → Prop} {g : PyData → PyData → Bool} (hu : X.A.units + 64 < cLine)
    (hc : ∀ {E : Value → Shared → Prop} {s : Shared} {a b : Value} {da db : PyData} {as bs : List Addr} {Q : Value → Shared → Prop}, Reads s.heap a da as → Reads s.heap b db bs → da.plain = true → db.plain = true → ok da db → X.A.units + min da.depth db.depth < cLine → Q (.bool (g da db)) s → wpAny (model X.prog X.w) X.A (compareOp op a b) Q E s) :
    OpR X (compareOp op) (rData X.K ok g) := by
  intro pins s σ H x y v u Q I rx ry h
  obtain ⟨d, e, hd, he, pd, pe, dd, de, hok, q⟩ := h
  obtain ⟨as, r1⟩ := Dp.reads I d x v hd rx
  obtain ⟨bs, r2⟩ := Dp.reads I e y u he ry
  refine hc r1 r2 pd pe hok ?_ ⟨.bl _, H, I, rfl, q⟩
  have : min d.depth e.depth ≤ d.depth := Nat.min_le_left _ _
  omega
theorem op_eqP (hu : X.A.units + 64 < cLine) : OpR X (compareOp .Eq) (rData X.K (fun _ _ => True) PyData.eqv) := op_data hu fun ra rb ha hb _ hu hq => PySem.SeqAt.eq_plain ra rb ha hb hu hq
theorem op_neP (hu : X.A.units + 64 < cLine) : OpR X (compareOp .NotEq) (rData X.K (fun _ _ => True) fun d e => !PyData.eqv d e) := op_data hu fun ra rb ha hb _ hu hq => PySem.SeqAt.ne_plain ra rb ha hb hu hq
abbrev okC (d e : PyData) : Prop := PySem.W.alike d e = true ∧ d ≠ .none
theorem op_ltP (hu : X.A.units + 64 < cLine) : OpR X (compareOp .Lt) (rData X.K okC fun d e => PySem.W.dataLt d e) := op_data hu fun ra rb ha hb h hu hq => PySem.W.lt_data ra rb h.1 h.2 hu hq
theorem op_gtP (hu : X.A.units + 64 < cLine) : OpR X (compareOp .Gt) (rData X.K okC fun d e => PySem.W.dataLt e d) := op_data hu fun ra rb ha hb h hu hq => PySem.W.gt_data ra rb h.1 h.2 hu hq
theorem op_leP (hu : X.A.units + 64 < cLine) : OpR X (compareOp .LtE) (rData X.K okC fun d e => !PySem.W.dataLt e d) := op_data hu fun ra rb ha hb h hu hq => PySem.W.le_data ra rb h.1 h.2 hu hq
theorem op_geP (hu : X.A.units + 64 < cLine) : OpR X (compareOp .GtE) (rData X.K okC fun d e => !PySem.W.dataLt d e) := op_data hu fun ra rb ha hb h hu hq => PySem.W.ge_data ra rb h.1 h.2 hu hq
end
theorem r2_data {mg : Str → Option Value} {K : PySem.W.Frag} {ok : PyData → PyData → Prop} {g : PyData → PyData → Bool} {op : D → D → Option D}
    (hop : ∀ d e r, op d e = some r → pd 64 d = true ∧ pd 64 e = true ∧ ok (toP d) (toP e) ∧ r = .bl (g (toP d) (toP e))) : R2Ok mg (rData K ok g) op := by
  intro P H x y d v w Q fr rx ry e k
  obtain ⟨h1, h2, h3, rfl⟩ := hop x y d e
  exact ⟨toP x, toP y, rx.dp h1, ry.dp h2, (pd_ok _ _ h1).1, (pd_ok _ _ h2).1, (pd_ok _ _ h1).2, (pd_ok _ _ h2).2, h3, k _ H (Same.refl H) (by simp only [Rep]) trivial⟩
theorem pd2_of {d e : D} (h : pd2 d e = true) : pd 64 d = true ∧ pd 64 e = true := by unfold pd2 at h; rwa [Bool.and_eq_true] at h
theorem eqD_ok {mg K} : R2Ok mg (rData K (fun _ _ => True) PyData.eqv) eqD := r2_data fun d e r h => by
  unfold eqD at h; split at h
  · rename_i c; cases h; exact ⟨(pd2_of c).1, (pd2_of c).2, trivial, rfl⟩
  · cases h
def rNeE : R2 := fun x y H Q => ∃ a b ks, x = .ref a ∧ y = .ref b ∧ Rd H a (.dK ks) ∧ Rd H b (.dK []) ∧ Q (.bl (!ks.isEmpty)) H
theorem op_neE {X : Cx} (hu : X.A.units < cLine) : OpR X (compareOp .NotEq) rNeE := by
  intro pins s σ H x y v u Q I rx ry h
  obtain ⟨a, b, ks, rfl, rfl, ea, eb, q⟩ := h
  obtain rfl : v = Value.ref a := rx
  obtain rfl : u = Value.ref b := ry
  obtain ⟨_, ya, va, ra, da⟩ := dk_rd I.hok ea
  obtain ⟨_, yb, vb, rb, db⟩ := dk_rd I.hok eb
  have la := ra.length
  have lb := rb.length
  refine PySem.W.keq_ne (knd := mixKind X.prog X.w) (r := true) ya yb da db hu (fun hl => ?_) ⟨.bl (!ks.isEmpty), H, I, ?_, q⟩
  · have : va = [] := List.length_eq_zero_iff.mp (by rw [hl, ← lb]; rfl)
    subst this
    exact .nil
  · show _ = Value.bool _
    congr 1
    cases ks with
    | nil =>
      have e1 : va.length = 0 := la.symm
      have e2 : vb.length = 0 := lb.symm
      rw [e1, e2]; rfl
    | cons k ks =>
      have e1 : va.length = ks.length + 1 := by rw [← la, List.length_cons]
      have e2 : vb.length = 0 := lb.symm
      rw [e1, e2]
      simp
theorem neD_ok {mg K} : R2Ok mg (fun x y H Q => rData K (fun _ _ => True) (fun d e => !PyData.eqv d e) x y H Q ∨ rNeE x y H Q) neD := by
  intro P H x y d v w Q fr rx ry e k
  unfold neD at e
  by_cases c : pd2 x y = true
  · rw [if_pos c] at e
    cases e
    exact .inl ⟨toP x, toP y, rx.dp (pd2_of c).1, ry.dp (pd2_of c).2, (pd_ok _ _ (pd2_of c).1).1, (pd_ok _ _ (pd2_of c).2).1, (pd_ok _ _ (pd2_of c).1).2, (pd_ok _ _ (pd2_of c).2).2, trivial, k _ H (Same.refl H) (by simp only [Rep]; rfl) trivial⟩
  · rw [if_neg c] at e
    unfold neDic at e
    split at e
    · rename_i kvs
      cases e
      simp only [RepB] at rx ry
      obtain ⟨a, ps, rfl, ⟨ks, ra, rfl⟩, h2⟩ := rx
      obtain ⟨b, qs, rfl, ⟨ls, rb, rfl⟩, h4⟩ := ry
      have e2 : ls = [] := by
        unfold RepKV at h4
        exact List.map_eq_nil_iff.mp h4
      subst e2
      refine .inr ⟨a, b, ks, rfl, rfl, ra, rb, ?_⟩
      have e3 : ks.isEmpty = kvs.isEmpty := by
        cases kvs with
        | nil =>
          unfold RepKV at h2
          rw [List.map_eq_nil_iff.mp h2]; rfl
        | cons p kvs =>
          obtain ⟨kk, dd⟩ := p
          unfold RepKV at h2
          obtain ⟨v, r, e, _⟩ := h2
          cases ks with
          | nil => cases e
          | cons _ _ => rfl
      rw [e3]
      exact k _ H (Same.refl H) (by simp only [Rep]) trivial
    · cases e
theorem cmpOk_of {d e : D} (h : cmpOk d e = true) : pd 64 d = true ∧ pd 64 e = true ∧ okC (toP d) (toP e) := by
  unfold cmpOk at h
  rw [Bool.and_eq_true, Bool.and_eq_true, Bool.not_eq_true'] at h
  obtain ⟨⟨h1, h2⟩, h3⟩ := h
  exact ⟨(pd2_of h1).1, (pd2_of h1).2, h2, isNon_toP (pd2_of h1).1 h3⟩
theorem ltD_ok {mg K} : R2Ok mg (rData K okC fun d e => PySem.W.dataLt d e) ltD := r2_data fun d e r h => by
  unfold ltD at h; split at h
  · rename_i c; cases h; exact ⟨(cmpOk_of c).1, (cmpOk_of c).2.1, (cmpOk_of c).2.2, rfl⟩
  · cases h
theorem gtD_ok {mg K} : R2Ok mg (rData K okC fun d e => PySem.W.dataLt e d) gtD := r2_data fun d e r h => by
  unfold gtD at h; split at h
  · rename_i c; cases h; exact ⟨(cmpOk_of c).1, (cmpOk_of c).2.1, (cmpOk_of c).2.2, rfl⟩
  · cases h
theorem leD_ok {mg K} : R2Ok mg (rData K okC fun d e => !PySem.W.dataLt e d) leD := r2_data fun d e r h => by
  unfold leD at h; split at h
  · rename_i c; cases h; exact ⟨(cmpOk_of c).1, (cmpOk_of c).2.1, (cmpOk_of c).2.2, rfl⟩
  · cases h
theorem geD_ok {mg K} : R2Ok mg (rData K okC fun d e => !PySem.W.dataLt d e) geD := r2_data fun d e r h => by
  unfold geD at h; split at h
  · rename_i c; cases h; exact ⟨(cmpOk_of c).1, (cmpOk_of c).2.1, (cmpOk_of c).2.2, rfl⟩
  · cases h

/-! ### arithmetic -/
/-- not too great for the model's // and * -/
def wid (i : Int) : Bool := decide (i.natAbs.log2 < 9000)
def wim (i : Int) : Bool := decide (i.natAbs.log2 < 400000)
def addD : D → D → Option D
  | .int i, .int j => some (.int (i + j))
  | .str a, .str b => if fits (a.length + b.length) then some (.str (a ++ b)) else none
  | .lst a, .lst b => if fits (a.length + b.length) then some (.lst (a ++ b)) else none
  | .tup a, .tup b => if fits (a.length + b.length) then some (.tup (a ++ b)) else none
  | _, _ => none
def subD : D → D → Option D
  | .int i, .int j => some (.int (i - j))
  | _, _ => none
def modD : D → D → Option D
  | .int i, .int j => if j != 0 then some (.int (i.fmod j)) else none
  | _, _ => none
def fdivD : D → D → Option D
  | .int i, .int j => if j != 0 && wid j then some (.int (i.fdiv j)) else none
  | _, _ => none
def powD : D → D → Option D
  | .int i, .int j => if decide (0 ≤ j) && decide (j ≤ 1000) && decide (i.natAbs < 1000) then some (.int (i ^ j.toNat)) else none
  | _, _ => none
def repL {α : Type} (k : Int) (xs : List α) : List α := (List.replicate k.toNat xs).flatten
def mulD : D → D → Option D
  | .int i, .int j => if wim i && wim j then some (.int (i * j)) else none
  | .lst xs, .int k => if decide (-1000 ≤ k) && decide (k ≤ 1000) && fits (xs.length * k.toNat) then some (.lst (repL k xs)) else none
  | .tup xs, .int k => if k = 1 then some (.tup xs) else if decide (2 ≤ k) && decide (k ≤ 1000) && decide (xs.length ≤ 1000) && !xs.isEmpty then some (.tup (repL k xs)) else none
  | .str z, .int k => if decide (1 ≤ k) && decide (k ≤ 1000) && decide (z.length ≤ 1000) then some (.str (mulS z k)) else none
  | _, _ => none
theorem RepL.app {P : Addr → Prop} {H : Hp} : ∀ {ds es : List D} {vs ws : List V}, RepL P H ds vs → RepL P H es ws → RepL P H (ds ++ es) (vs ++ ws)
  | [], _, _, _, h, g => by simp only [RepL] at h; subst h; exact g
  | d :: ds, es, vs, ws, h, g => by
    simp only [RepL] at h
    obtain ⟨v, r, rfl, h1, h2⟩ := h
    show RepL P H (d :: (ds ++ es)) (v :: (r ++ ws))
    simp only [RepL]
    exact ⟨v, r ++ ws, rfl, h1, RepL.app h2 g⟩
theorem RepL.rep {P : Addr → Prop} {H : Hp} {ds : List D} {vs : List V} (h : RepL P H ds vs) : ∀ n : Nat, RepL P H (List.replicate n ds).flatten (List.replicate n vs).flatten
  | 0 => by simp only [List.replicate_zero, List.flatten_nil, RepL]
  | n + 1 => by simp only [List.replicate_succ, List.flatten_cons]; exact h.app (h.rep n)
/-- the places of a tuple, of a list -/
theorem RepB.tup {mg : Str → Option Value} {P : Addr → Prop} {H : Hp} {ds : List D} {v : V} (h : RepB mg P H (.tup ds) v) : ∃ a vs, v = .ref a ∧ H a = some (.tup vs) ∧ RepL P H ds vs := by simpa only [RepB, Rep] using h
theorem RepB.lst {mg : Str → Option Value} {P : Addr → Prop} {H : Hp} {ds : List D} {v : V} (h : RepB mg P H (.lst ds) v) : ∃ a vs, v = .ref a ∧ H a = some (.lst vs) ∧ RepL P H ds vs := by simpa only [RepB] using h
theorem rep_newL {P : Addr → Prop} {H : Hp} {p : Addr} {ds : List D} {vs : List V} (fr : Fre P H) (hp : H p = none) (h : RepL P H ds vs) : Rep P (upd H p (.lst vs)) (.lst ds) (.ref p) := by
  simp only [Rep]
  exact ⟨p, vs, rfl, fr p hp, upd_same, h.same (same_new hp)⟩
theorem rep_newT {P : Addr → Prop} {H : Hp} {p : Addr} {ds : List D} {vs : List V} (hp : H p = none) (h : RepL P H ds vs) : Rep P (upd H p (.tup vs)) (.tup ds) (.ref p) := by
  simp only [Rep]
  exact ⟨p, vs, rfl, upd_same, h.same (same_new hp)⟩
theorem topNew_ref {H : Hp} {p : Addr} {d : D} (hp : H p = none) : TopNew H d (.ref p) := by
  cases d <;> simp only [TopNew] <;> (intro a e; cases e; exact hp)
abbrev rAddD (K : PySem.W.Frag) : R2 := fun x y H Q => rI0 (fun i j => .int (i + j)) x y H Q ∨ (∃ i j, x = .str i ∧ y = .str j ∧ i.length + j.length ≤ sizeLine ∧ Q (.str (i ++ j)) H) ∨ rCat x y H Q ∨ rCatA K x y H Q
theorem op_addD {X : Cx} : OpR X (binaryOp .Add) (rAddD X.K) := op_add.or (op_add_str.or (op_cat.or op_catA))
theorem addD_ok {mg K} : R2Ok mg (rAddD K) addD := by
  intro P H x y d v w Q fr rx ry e k
  cases x <;> cases y <;> simp only [addD] at e <;> first | (cases e; done) | skip
  · cases e
    simp only [RepB] at rx ry
    exact .inl ⟨_, _, rx, ry, k _ H (Same.refl H) (by simp only [Rep]) trivial⟩
  · split at e
    · rename_i c
      cases e
      simp only [RepB] at rx ry
      exact .inr (.inl ⟨_, _, rx, ry, of_decide_eq_true c, k _ H (Same.refl H) (by simp only [Rep]) trivial⟩)
    · cases e
  · split at e
    · rename_i c
      cases e
      obtain ⟨a, vs, rfl, ha, r1⟩ := rx.tup
      obtain ⟨b, ws, rfl, hb, r2⟩ := ry.tup
      refine .inr (.inr (.inr ⟨a, b, vs, ws, rfl, rfl, SqT.of ha, SqT.of hb, ?_, fun z => ?_, fun _ z => ?_, fun _ _ p hp => ?_⟩))
      · rw [r1.len, r2.len]; exact of_decide_eq_true c
      · refine k _ H (Same.refl H) ?_ trivial
        subst z
        have r3 := r1.app r2
        simp only [Rep]
        exact ⟨b, ws, rfl, hb, by simpa using r3⟩
      · refine k _ H (Same.refl H) ?_ trivial
        subst z
        have r3 := r1.app r2
        simp only [Rep]
        exact ⟨a, vs, rfl, ha, by simpa using r3⟩
      · exact k _ _ (same_new hp) (rep_newT hp (r1.app r2)) trivial
    · cases e
  · split at e
    · rename_i c
      cases e
      obtain ⟨a, vs, rfl, ha, r1⟩ := rx.lst
      obtain ⟨b, ws, rfl, hb, r2⟩ := ry.lst
      refine .inr (.inr (.inl ⟨a, b, vs, ws, rfl, rfl, ha, hb, ?_, fun p hp => ?_⟩))
      · rw [r1.len, r2.len]; exact of_decide_eq_true c
      · exact k _ _ (same_new hp) (rep_newL fr hp (r1.app r2)) (topNew_ref hp)
    · cases e
theorem subD_ok {mg} : R2Ok mg (rI0 fun i j => .int (i - j)) subD := by
  intro P H x y d v w Q fr rx ry e k
  cases x <;> cases y <;> simp only [subD] at e <;> first | (cases e; done) | skip
  cases e
  simp only [RepB] at rx ry
  exact ⟨_, _, rx, ry, k _ H (Same.refl H) (by simp only [Rep]) trivial⟩
theorem modD_ok {mg} : R2Ok mg (rI (fun _ j => j ≠ 0) fun i j => .int (i.fmod j)) modD := by
  intro P H x y d v w Q fr rx ry e k
  cases x <;> cases y <;> simp only [modD] at e <;> first | (cases e; done) | skip
  split at e
  · rename_i c
    cases e
    simp only [RepB] at rx ry
    exact ⟨_, _, rx, ry, by simpa using c, k _ H (Same.refl H) (by simp only [Rep]) trivial⟩
  · cases e
theorem op_fdivA {X : Cx} : OpR X (binaryOp .FloorDiv) (rI (fun _ j => j ≠ 0 ∧ j.natAbs.log2 < 9000) fun i j => .int (i.fdiv j)) := opI fun _ _ _ _ _ _ _ hc q => floordiv_int hc.1 q (.inl (PyProof.noPylong_of_log2 hc.2))
theorem fdivD_ok {mg} : R2Ok mg (rI (fun _ j => j ≠ 0 ∧ j.natAbs.log2 < 9000) fun i j => .int (i.fdiv j)) fdivD := by
  intro P H x y d v w Q fr rx ry e k
  cases x <;> cases y <;> simp only [fdivD] at e <;> first | (cases e; done) | skip
  split at e
  · rename_i c
    cases e
    simp only [RepB] at rx ry
    rw [Bool.and_eq_true] at c
    exact ⟨_, _, rx, ry, ⟨by simpa using c.1, of_decide_eq_true c.2⟩, k _ H (Same.refl H) (by simp only [Rep]) trivial⟩
  · cases e
theorem powD_ok {mg} : R2Ok mg (rI CPow fun i j => .int (i ^ j.toNat)) powD := by
  intro P H x y d v w Q fr rx ry e k
  cases x <;> cases y <;> simp only [powD] at e <;> first | (cases e; done) | skip
  split at e
  · rename_i c
    cases e
    simp only [RepB] at rx ry
    rw [Bool.and_eq_true, Bool.and_eq_true, decide_eq_true_eq, decide_eq_true_eq, decide_eq_true_eq] at c
    exact ⟨_, _, rx, ry, ⟨c.1.1, by omega, by have := c.2; omega⟩, k _ H (Same.refl H) (by simp only [Rep]) trivial⟩
  · cases e
abbrev rMulD (K : PySem.W.Frag) : R2 := fun x y H Q => rI CMulW (fun i j => .int (i * j)) x y H Q ∨ rRep x y H Q ∨ rRepT K x y H Q ∨ rRepT1 K x y H Q ∨ rMulS x y H Q
theorem op_mulD {X : Cx} : OpR X (binaryOp .Mult) (rMulD X.K) := op_mulW.or (op_rep.or (op_repT.or (op_repT1.or op_mulS)))
theorem mulD_ok {mg K} : R2Ok mg (rMulD K) mulD := by
  intro P H x y d v w Q fr rx ry e k
  cases x <;> cases y <;> simp only [mulD] at e <;> first | (cases e; done) | skip
  · split at e
    · rename_i c
      cases e
      simp only [RepB] at rx ry
      rw [Bool.and_eq_true] at c
      have h1 := of_decide_eq_true c.1
      have h2 := of_decide_eq_true c.2
      exact .inl ⟨_, _, rx, ry, by unfold CMulW; omega, k _ H (Same.refl H) (by simp only [Rep]) trivial⟩
    · cases e
  · split at e
    · rename_i c
      cases e
      rw [Bool.and_eq_true, Bool.and_eq_true, decide_eq_true_eq, decide_eq_true_eq, decide_eq_true_eq] at c
      simp only [RepB] at rx ry
      exact .inr (.inr (.inr (.inr ⟨_, _, rx, ry, c.1.1, c.1.2, c.2, k _ H (Same.refl H) (by simp only [Rep]) trivial⟩)))
    · cases e
  · split at e
    · rename_i c1
      cases e
      obtain ⟨a, vs, rfl, ha, r1⟩ := rx.tup
      simp only [RepB] at ry
      subst c1
      exact .inr (.inr (.inr (.inl ⟨a, vs, rfl, ry, SqT.of ha, k _ H (Same.refl H) (by simp only [Rep]; exact ⟨a, vs, rfl, ha, r1⟩) trivial⟩)))
    split at e
    · rename_i c
      cases e
      rw [Bool.and_eq_true, Bool.and_eq_true, Bool.and_eq_true, decide_eq_true_eq, decide_eq_true_eq, decide_eq_true_eq] at c
      obtain ⟨⟨⟨c1, c2⟩, c3⟩, c4⟩ := c
      obtain ⟨a, vs, rfl, ha, r1⟩ := rx.tup
      simp only [RepB] at ry
      refine .inr (.inr (.inl ⟨a, _, vs, rfl, ry, SqT.of ha, ?_, c1, c2, by rw [r1.len]; exact c3, fun p hp => ?_⟩))
      · intro z
        have := r1.isEmpty
        rw [z] at this
        rw [← this] at c4
        cases c4
      · exact k _ _ (same_new hp) (rep_newT hp (r1.rep _)) trivial
    · cases e
  · split at e
    · rename_i c
      cases e
      rw [Bool.and_eq_true, Bool.and_eq_true, decide_eq_true_eq, decide_eq_true_eq] at c
      obtain ⟨⟨c1, c2⟩, c3⟩ := c
      obtain ⟨a, vs, rfl, ha, r1⟩ := rx.lst
      simp only [RepB] at ry
      refine .inr (.inl ⟨a, _, vs, rfl, ry, ha, by omega, by omega, by rw [r1.len]; exact of_decide_eq_true c3, fun p hp => ?_⟩)
      exact k _ _ (same_new hp) (rep_newL fr hp (r1.rep _)) (topNew_ref hp)
    · cases e

/-! ### unary -/
def negD : D → Option D
  | .int i => some (.int (-i))
  | _ => none
theorem negD_ok {mg} : R1Ok mg (rU fun i => .int (-i)) negD := by
  intro P H x d v Q fr rx e k
  cases x <;> simp only [negD] at e <;> first | (cases e; done) | skip
  cases e
  simp only [RepB] at rx
  exact ⟨_, rx, k _ H (Same.refl H) (by simp only [Rep]) trivial⟩

/-! ### is -/
def isD : D → D → Option D
  | x, .non => some (.bl (isNon x))
  | .bl a, .bl b => some (.bl (decide (a = b)))
  | _, _ => none
def isntD : D → D → Option D
  | x, .non => some (.bl (!isNon x))
  | .bl a, .bl b => some (.bl (!decide (a = b)))
  | _, _ => none
abbrev rIsD : R2 := fun x y H Q => (y = .non ∧ Q (.bl (decide (x = .non))) H) ∨ ∃ a b, x = .bl a ∧ y = .bl b ∧ Q (.bl (decide (a = b))) H
abbrev rIsntD : R2 := fun x y H Q => (y = .non ∧ Q (.bl (!decide (x = .non))) H) ∨ ∃ a b, x = .bl a ∧ y = .bl b ∧ Q (.bl (!decide (a = b))) H
theorem op_isD {X : Cx} : OpR X (compareOp .Is) rIsD := op_isN.or op_isBl
theorem op_isntD {X : Cx} : OpR X (compareOp .IsNot) rIsntD := op_notN.or op_notBl
theorem RepB.isNon {mg : Str → Option Value} {P : Addr → Prop} {H : Hp} {d : D} {v : V} (r : RepB mg P H d v) : decide (v = .non) = isNon d := by
  cases d <;> simp only [RepB, Rep] at r <;> simp only [RE.isNon]
  · subst r; rfl
  · subst r; rfl
  · subst r; rfl
  · subst r; rfl
  · obtain ⟨a, vs, rfl, _⟩ := r; rfl
  · obtain ⟨a, vs, rfl, _⟩ := r; rfl
  · obtain ⟨a, vs, rfl, _⟩ := r; rfl
  · obtain ⟨a, vs, rfl, _⟩ := r; rfl
  · obtain ⟨a, rfl, _⟩ := r; rfl
theorem isD_ok {mg} : R2Ok mg rIsD isD := by
  intro P H x y d v w Q fr rx ry e k
  unfold isD at e
  split at e
  · cases e
    simp only [RepB] at ry
    refine .inl ⟨ry, ?_⟩
    rw [rx.isNon]
    exact k _ H (Same.refl H) (by simp only [Rep]) trivial
  · cases e
    simp only [RepB] at rx ry
    exact .inr ⟨_, _, rx, ry, k _ H (Same.refl H) (by simp only [Rep]) trivial⟩
  · cases e
theorem isntD_ok {mg} : R2Ok mg rIsntD isntD := by
  intro P H x y d v w Q fr rx ry e k
  unfold isntD at e
  split at e
  · cases e
    simp only [RepB] at ry
    refine .inl ⟨ry, ?_⟩
    rw [rx.isNon]
    exact k _ H (Same.refl H) (by simp only [Rep]) trivial
  · cases e
    simp only [RepB] at rx ry
    exact .inr ⟨_, _, rx, ry, k _ H (Same.refl H) (by simp only [Rep]) trivial⟩
  · cases e
end RE
/-! RE5: indexes, slices, in, built-ins. -/
namespace RE
open PySem PySem.Spec PyProof.Rows L2

theorem pe_or2 {X : Cx} {e : Expr} {t u : TE} (h : PE X e t) (g : PE X e u) : PE X e (fun σ H Q => t σ H Q ∨ u σ H Q) :=
  ⟨fun pins s σ H Q I q => q.elim (h.run pins s σ H Q I) (g.run pins s σ H Q I)⟩

theorem RepL.get {P : Addr → Prop} {H : Hp} : ∀ {ds : List D} {vs : List V} {i : Nat} {d : D}, RepL P H ds vs → ds[i]? = some d → ∃ v, vs[i]? = some v ∧ Rep P H d v
  | [], _, i, d, _, e => by simp at e
  | d0 :: ds, vs, 0, d, h, e => by
    simp only [RepL] at h
    obtain ⟨v, r, rfl, h1, _⟩ := h
    simp at e; subst e
    exact ⟨v, rfl, h1⟩
  | d0 :: ds, vs, i + 1, d, h, e => by
    simp only [RepL] at h
    obtain ⟨v, r, rfl, _, h2⟩ := h
    obtain ⟨u, e1, r1⟩ := RepL.get (i := i) (d := d) h2 (by simpa using e)
    exact ⟨u, by simpa using e1, r1⟩
theorem RepL.drop {P : Addr → Prop} {H : Hp} : ∀ {ds : List D} {vs : List V} (n : Nat), RepL P H ds vs → RepL P H (ds.drop n) (vs.drop n)
  | _, _, 0, h => h
  | [], _, n + 1, h => by simp only [RepL] at h; subst h; simp [RepL]
  | d :: ds, vs, n + 1, h => by
    simp only [RepL] at h
    obtain ⟨v, r, rfl, _, h2⟩ := h
    exact RepL.drop n h2
theorem RepL.take {P : Addr → Prop} {H : Hp} : ∀ {ds : List D} {vs : List V} (n : Nat), RepL P H ds vs → RepL P H (ds.take n) (vs.take n)
  | _, _, 0, _ => by simp [RepL]
  | [], _, n + 1, h => by simp only [RepL] at h; subst h; simp [RepL]
  | d :: ds, vs, n + 1, h => by
    simp only [RepL] at h
    obtain ⟨v, r, rfl, h1, h2⟩ := h
    simp only [List.take_succ_cons, RepL]
    exact ⟨v, _, rfl, h1, RepL.take n h2⟩
theorem RepL.atI {P : Addr → Prop} {H : Hp} {ds : List D} {vs : List V} {i : Int} {d : D} (h : RepL P H ds vs) (e : L2.atI ds i = some d) : ∃ v, L2.atI vs i = some v ∧ Rep P H d v := by
  unfold L2.atI at e ⊢
  rw [← h.len] at e
  obtain ⟨j, e1, e2⟩ := Option.bind_eq_some_iff.mp e
  obtain ⟨v, e3, r⟩ := h.get e2
  exact ⟨v, by rw [e1]; exact e3, r⟩

/-! ### dicts by keys -/
def keyA : D → Option Key
  | .int i => some (.inl i)
  | .str s => some (.inr s)
  | _ => none
def keysA : List D → Option (List Key)
  | [] => some []
  | d :: ds => (keyA d).bind fun k => (keysA ds).bind fun ks => some (k :: ks)
def keyT : D → Option (List Key)
  | .tup xs => keysA xs
  | _ => none
theorem keyA_keyD (k : Key) : keyA (keyD k) = some k := by cases k <;> rfl
theorem keyA_some {d : D} {k : Key} (h : keyA d = some k) : d = keyD k := by
  cases d <;> simp [keyA] at h <;> subst h <;> rfl
theorem keysA_map : ∀ ks : List Key, keysA (ks.map keyD) = some ks
  | [] => rfl
  | k :: ks => by simp only [List.map_cons, keysA, keyA_keyD, keysA_map ks]; rfl
theorem keysA_some : ∀ {ds : List D} {ks : List Key}, keysA ds = some ks → ds = ks.map keyD
  | [], ks, h => by simp [keysA] at h; subst h; rfl
  | d :: ds, ks, h => by
    simp only [keysA] at h
    obtain ⟨k, e1, h⟩ := Option.bind_eq_some_iff.mp h
    obtain ⟨ks', e2, h⟩ := Option.bind_eq_some_iff.mp h
    cases h
    rw [keyA_some e1, keysA_some e2]; rfl
theorem keyT_some {d : D} {ks : List Key} (h : keyT d = some ks) : d = .tup (ks.map keyD) := by
  cases d <;> simp [keyT] at h
  rw [keysA_some h]
/-- what a dict holds at a key of its kind -/
def dget (t : Bool) (kvs : List (D × D)) (k : D) : Option (Option D) :=
  match t with
  | false => (keyA k).map fun q => (kvs.find? fun p => decide (keyA p.1 = some q)).map (·.2)
  | true => (keyT k).map fun q => (kvs.find? fun p => decide (keyT p.1 = some q)).map (·.2)
/-- in its place, or at the end -/
def dput (t : Bool) (kvs : List (D × D)) (k v : D) : Option (List (D × D)) :=
  match t with
  | false => (keyA k).map fun q => if (kvs.any fun p => decide (keyA p.1 = some q)) = true then kvs.map (fun p => if keyA p.1 = some q then (p.1, v) else p) else kvs ++ [(k, v)]
  | true => (keyT k).map fun q => if (kvs.any fun p => decide (keyT p.1 = some q)) = true then kvs.map (fun p => if keyT p.1 = some q then (p.1, v) else p) else kvs ++ [(k, v)]

section
variable {P : Addr → Prop} {H : Hp} {κ : Type} [DecidableEq κ]
theorem kv_find (kt : D → Option κ) (inj : κ → D) (hk : ∀ k, kt (inj k) = some k) (q : κ) : ∀ {kvs : List (D × D)} {ks : List (κ × V)}, RepKV P H kvs (ks.map fun z => (inj z.1, z.2)) →
    match (kvs.find? fun p => decide (kt p.1 = some q)).map (·.2) with
    | some d => ∃ v, valV ks q = some v ∧ Rep P H d v
    | none => valV ks q = none
  | [], [], _ => rfl
  | [], _ :: _, h => by simp [RepKV] at h
  | (k, d) :: kvs, [], h => by simp [RepKV] at h
  | (k, d) :: kvs, (k', v') :: ks, h => by
    simp only [RepKV, List.map_cons] at h
    obtain ⟨v, r, e, h1, h2⟩ := h
    simp only [List.cons.injEq, Prod.mk.injEq] at e
    obtain ⟨⟨e1, e2⟩, e3⟩ := e
    subst e1 e2 e3
    by_cases c : k' = q
    · subst c
      rw [List.find?_cons_of_pos (by simp [hk])]
      exact ⟨v', valV_pos rfl, h1⟩
    · rw [List.find?_cons_of_neg (by simp [hk]; exact c), valV_neg c]
      exact kv_find kt inj hk q h2
theorem kv_any (kt : D → Option κ) (inj : κ → D) (hk : ∀ k, kt (inj k) = some k) (q : κ) : ∀ {kvs : List (D × D)} {ks : List (κ × V)}, RepKV P H kvs (ks.map fun z => (inj z.1, z.2)) →
    (kvs.any fun p => decide (kt p.1 = some q)) = ks.any fun z => decide (z.1 = q)
  | [], [], _ => rfl
  | [], _ :: _, h => by simp [RepKV] at h
  | (k, d) :: kvs, [], h => by simp [RepKV] at h
  | (k, d) :: kvs, (k', v') :: ks, h => by
    simp only [RepKV, List.map_cons] at h
    obtain ⟨v, r, e, h1, h2⟩ := h
    simp only [List.cons.injEq, Prod.mk.injEq] at e
    obtain ⟨⟨e1, e2⟩, e3⟩ := e
    subst e1 e2 e3
    rw [List.any_cons, List.any_cons, kv_any kt inj hk q h2]
    simp only [hk, Option.some.injEq]
theorem kv_repl (kt : D → Option κ) (inj : κ → D) (hk : ∀ k, kt (inj k) = some k) (q : κ) {d0 : D} {v0 : V} (r0 : Rep P H d0 v0) : ∀ {kvs : List (D × D)} {ks : List (κ × V)}, RepKV P H kvs (ks.map fun z => (inj z.1, z.2)) →
    RepKV P H (kvs.map fun p => if kt p.1 = some q then (p.1, d0) else p) ((ks.map fun z => if z.1 = q then (z.1, v0) else z).map fun z => (inj z.1, z.2))
  | [], [], _ => by simp [RepKV]
  | [], _ :: _, h => by simp [RepKV] at h
  | (k, d) :: kvs, [], h => by simp [RepKV] at h
  | (k, d) :: kvs, (k', v') :: ks, h => by
    simp only [RepKV, List.map_cons] at h
    obtain ⟨v, r, e, h1, h2⟩ := h
    simp only [List.cons.injEq, Prod.mk.injEq] at e
    obtain ⟨⟨e1, e2⟩, e3⟩ := e
    subst e1 e2 e3
    have ih := kv_repl kt inj hk q r0 h2
    simp only [List.map_cons, hk, Option.some.injEq]
    by_cases c : k' = q
    · rw [if_pos c, if_pos c]; simp only [RepKV]; exact ⟨v0, _, rfl, r0, ih⟩
    · rw [if_neg c, if_neg c]; simp only [RepKV]; exact ⟨v', _, rfl, h1, ih⟩
theorem RepKV.app : ∀ {kvs kvs' : List (D × D)} {ps qs : List (D × V)}, RepKV P H kvs ps → RepKV P H kvs' qs → RepKV P H (kvs ++ kvs') (ps ++ qs)
  | [], _, _, _, h, g => by simp only [RepKV] at h; subst h; exact g
  | (k, d) :: kvs, _, _, qs, h, g => by
    simp only [RepKV] at h
    obtain ⟨v, r, rfl, h1, h2⟩ := h
    show RepKV P H ((k, d) :: (kvs ++ _)) ((k, v) :: (r ++ qs))
    simp only [RepKV]
    exact ⟨v, r ++ qs, rfl, h1, RepKV.app h2 g⟩
theorem kv_put (kt : D → Option κ) (inj : κ → D) (hk : ∀ k, kt (inj k) = some k) (q : κ) {d0 : D} {v0 : V} (r0 : Rep P H d0 v0) {kvs : List (D × D)} {ks : List (κ × V)} (h : RepKV P H kvs (ks.map fun z => (inj z.1, z.2))) :
    RepKV P H (if (kvs.any fun p => decide (kt p.1 = some q)) = true then kvs.map (fun p => if kt p.1 = some q then (p.1, d0) else p) else kvs ++ [(inj q, d0)]) ((putK ks q v0).map fun z => (inj z.1, z.2)) := by
  unfold putK
  rw [kv_any kt inj hk q h]
  split
  · exact kv_repl kt inj hk q r0 h
  · rw [List.map_append]
    refine h.app ?_
    simp only [List.map_cons, List.map_nil, RepKV]
    exact ⟨v0, [], rfl, r0, rfl⟩
end
theorem RepKV.len {P : Addr → Prop} {H : Hp} : ∀ {kvs : List (D × D)} {ps : List (D × V)}, RepKV P H kvs ps → ps.length = kvs.length
  | [], _, h => by simp only [RepKV] at h; subst h; rfl
  | (k, d) :: kvs, ps, h => by
    simp only [RepKV] at h
    obtain ⟨v, r, rfl, _, h2⟩ := h
    rw [List.length_cons, List.length_cons, RepKV.len h2]
theorem RepL.keys {P : Addr → Prop} {H : Hp} : ∀ {ks : List Key} {vs : List V}, RepL P H (ks.map keyD) vs → vs = ks.map kV
  | [], _, h => by simpa only [List.map_nil, RepL] using h
  | k :: ks, vs, h => by
    simp only [List.map_cons, RepL] at h
    obtain ⟨v, r, rfl, h1, h2⟩ := h
    rw [RepL.keys h2, List.map_cons]
    cases k <;> simp only [keyD, Rep] at h1 <;> rw [h1] <;> rfl
theorem RepB.key {mg : Str → Option Value} {P : Addr → Prop} {H : Hp} {k : Key} {v : V} (h : RepB mg P H (keyD k) v) : v = kV k := by
  cases k <;> simpa only [keyD, RepB, kV] using h
/-- the dict at a place, looked at -/
theorem RepB.dic {mg : Str → Option Value} {P : Addr → Prop} {H : Hp} {t : Bool} {kvs : List (D × D)} {v : V} (h : RepB mg P H (.dic t kvs) v) : ∃ a ps, v = .ref a ∧ HD t H a ps ∧ RepKV P H kvs ps := by simpa only [RepB] using h
theorem dget_ok {mg : Str → Option Value} {P : Addr → Prop} {H : Hp} {t : Bool} {kvs : List (D × D)} {k : D} {o : Option D} {v w : V} (h : RepB mg P H (.dic t kvs) v) (hk : RepB mg P H k w) (e : dget t kvs k = some o) :
    ∃ a ov, v = .ref a ∧ DGet H a w ov ∧ match o with | some d => ∃ u, ov = some u ∧ Rep P H d u | none => ov = none := by
  obtain ⟨a, ps, rfl, hd, hr⟩ := h.dic
  cases t with
  | false =>
    obtain ⟨ks, rd, rfl⟩ := hd
    simp only [dget] at e
    obtain ⟨q, e1, e2⟩ := Option.map_eq_some_iff.mp e
    have := keyA_some e1
    subst this
    have f := kv_find keyA keyD keyA_keyD q hr
    rw [e2] at f
    have ew := hk.key
    refine ⟨a, valV ks q, rfl, .inl ⟨ks, q, rd, ew, rfl⟩, ?_⟩
    cases o with
    | none => exact f
    | some d => exact f
  | true =>
    obtain ⟨ks, rd, rfl⟩ := hd
    simp only [dget] at e
    obtain ⟨q, e1, e2⟩ := Option.map_eq_some_iff.mp e
    have := keyT_some e1
    subst this
    have f := kv_find keyT (fun ks => .tup (ks.map keyD)) (fun ks => keysA_map ks) q hr
    rw [e2] at f
    obtain ⟨b, vs, rfl, hb, hvs⟩ := hk.tup
    have := hvs.keys
    subst this
    refine ⟨a, valV ks q, rfl, .inr ⟨ks, q, b, rd, rfl, hb, rfl⟩, ?_⟩
    cases o with
    | none => exact f
    | some d => exact f

/-! ### subscripts -/
def cpsAt (s : Str) (i : Int) : Option D := (L2.atI s.cps.toList i).map fun c => .str ⟨#[c]⟩
def idxD : D → D → Option D
  | .lst xs, .int i => L2.atI xs i
  | .tup xs, .int i => L2.atI xs i
  | .str s, .int i => if fits s.length then cpsAt s i else none
  | .scr ns, .int i => (L2.atI ns i).map .int
  | .dic t kvs, k => (dget t kvs k).bind id
  | _, _ => none
def plainIx : Expr → Bool
  | .Slice _ _ _ _ => false
  | _ => true
theorem plainIx_ok {b : Expr} (h : plainIx b = true) : PlainIx b := by
  intro o i
  cases b <;> first | rfl | cases h
theorem atI_map {α β : Type} (f : α → β) (xs : List α) (i : Int) : L2.atI (xs.map f) i = (L2.atI xs i).map f := by
  unfold L2.atI
  rw [List.length_map]
  cases ixN xs.length i with
  | none => rfl
  | some j => simp
section
variable {X : Cx} {ks : Ks} {F : Fn} {pos : Pos}
def cIx (f g : SE) : SE := cB idxD f g
theorem evE_idx {a b : Expr} {f g : SE} (hu : X.A.units + 1 < cLine) (hb' : plainIx b = true) (ha : EvP X ks F a f) (hb : EvP X ks F b g) : EvE X ks F (.Subscript a b pos) (cIx f g) := by
  obtain ⟨ta, pa, qa⟩ := ha.ex
  obtain ⟨tb, pb, qb⟩ := hb.ex
  refine ⟨_, pe_or2 (pe_ix ix_seq pa pb (plainIx_ok hb')) (pe_dget hu pa pb (plainIx_ok hb')), fun σ H P ρ Q d fr er ev k => ?_⟩
  obtain ⟨x, e1, ev1⟩ := Option.bind_eq_some_iff.mp ev
  obtain ⟨y, e2, ev2⟩ := Option.bind_eq_some_iff.mp ev1
  have seq : (∀ v w H', Same H H' → RepB X.mg P H' x v → RepB X.mg P H' y w → rIx X.K v w H' Q) → tOp (rIx X.K) ta tb σ H Q := fun z => by
    refine qa σ H P ρ _ x fr er e1 fun v H1 s1 r1 => ?_
    refine qb σ H1 P ρ _ y (fr.same s1) (er.same s1) e2 fun w H2 s2 r2 => ?_
    exact z v w H2 (s1.trans s2) (r1.same s2) r2
  unfold idxD at ev2
  split at ev2
  · refine .inl (seq fun v w H' s r1 r2 => ?_)
    obtain ⟨a, vs, rfl, h1, h2⟩ := r1.lst
    obtain ⟨u, e3, r3⟩ := h2.atI ev2
    simp only [RepB] at r2
    exact .inl ⟨a, vs, _, u, rfl, r2, SqL.of h1, e3, k u H' s r3⟩
  · refine .inl (seq fun v w H' s r1 r2 => ?_)
    obtain ⟨a, vs, rfl, h1, h2⟩ := r1.tup
    obtain ⟨u, e3, r3⟩ := h2.atI ev2
    simp only [RepB] at r2
    exact .inr (.inl ⟨a, vs, _, u, rfl, r2, SqT.of h1, e3, k u H' s r3⟩)
  · refine .inl (seq fun v w H' s r1 r2 => ?_)
    split at ev2
    · rename_i c
      obtain ⟨u, e3, e4⟩ := Option.map_eq_some_iff.mp ev2
      subst e4
      simp only [RepB] at r1 r2
      exact .inr (.inr ⟨_, _, u, r1, r2, of_decide_eq_true c, e3, k _ H' s (by simp only [Rep])⟩)
    · cases ev2
  · refine .inl (seq fun v w H' s r1 r2 => ?_)
    obtain ⟨u, e3, e4⟩ := Option.map_eq_some_iff.mp ev2
    subst e4
    simp only [RepB, Rep] at r1 r2
    obtain ⟨a, o, rfl, h1⟩ := r1
    refine .inl ⟨a, _, _, .int u, rfl, r2, .inl (.inr ⟨o, h1⟩), ?_, k _ H' s (by simp only [Rep])⟩
    rw [atI_map, e3]; rfl
  · rename_i t kvs
    obtain ⟨o, e3, e4⟩ := Option.bind_eq_some_iff.mp ev2
    simp only [id] at e4
    subst e4
    refine .inr (qa σ H P ρ _ _ fr er e1 fun v H1 s1 r1 => ?_)
    refine qb σ H1 P ρ _ y (fr.same s1) (er.same s1) e2 fun w H2 s2 r2 => ?_
    obtain ⟨a, ov, rfl, g, u, rfl, ru⟩ := dget_ok (r1.same s2) r2 e3
    exact ⟨a, u, rfl, g, k u H2 (s1.trans s2) ru⟩
  · cases ev2

/-! ### slices without a step -/
def cutL {α : Type} (xs : List α) (lo hi : Option Int) : List α := (xs.drop (HT.sIx xs.length 0 lo)).take (HT.sIx xs.length xs.length hi - HT.sIx xs.length 0 lo)
def slcD (lo hi : Option Int) : D → Option D
  | .lst xs => some (.lst (cutL xs lo hi))
  | .tup xs => some (.tup (cutL xs lo hi))
  | .str s => if fits s.length then some (.str (cutS s lo hi)) else none
  | _ => none
theorem RepL.cut {P : Addr → Prop} {H : Hp} {ds : List D} {vs : List V} (h : RepL P H ds vs) (lo hi : Option Int) : RepL P H (cutL ds lo hi) (cutV vs lo hi) := by
  unfold cutL cutV
  rw [h.len]
  exact (h.drop _).take _
abbrev SO := Fn → RE.Env → Option (Option Int)
def intD : D → Option Int
  | .int i => some i
  | _ => none
def cNone : SO := fun _ _ => some none
def cPart (f : SE) : SO := fun F ρ => (f F ρ).bind fun d => (intD d).map some
structure EvO (X : Cx) (ks : Ks) (F : Fn) (e : Option Expr) (f : SO) : Prop where
  ex : ∃ t : TO, PO X e t ∧ ∀ σ H (P : Addr → Prop) (ρ : RE.Env) (Q : Option Int → Hp → Prop) (o : Option Int), Fre P H → ER X.mg P ks H σ ρ → f F ρ = some o → (∀ H', Same H H' → Q o H') → t σ H Q
theorem evO_none : EvO X ks F none cNone := ⟨tNoPart, po_none, fun σ H P ρ Q o fr er ev k => by cases ev; exact k H (Same.refl H)⟩
theorem evO_some {e : Expr} {f : SE} (h : EvP X ks F e f) : EvO X ks F (some e) (cPart f) := by
  obtain ⟨t, p, q⟩ := h.ex
  refine ⟨tPart t, po_some p, fun σ H P ρ Q o fr er ev k => ?_⟩
  obtain ⟨d, e1, ev1⟩ := Option.bind_eq_some_iff.mp ev
  obtain ⟨i, e2, ev2⟩ := Option.map_eq_some_iff.mp ev1
  subst ev2
  refine q σ H P ρ _ d fr er e1 fun v H1 s1 r1 => ?_
  cases d <;> simp only [intD] at e2 <;> first | (cases e2; done) | skip
  cases e2
  simp only [RepB] at r1
  exact ⟨_, r1, k H1 s1⟩
def cSl (f : SE) (lo hi : SO) : SE := fun F ρ => (f F ρ).bind fun d => (lo F ρ).bind fun l => (hi F ρ).bind fun h => slcD l h d
theorem evN_slice {e : Expr} {lo hi : Option Expr} {f : SE} {g h : SO} {p2 : Pos} (he : EvP X ks F e f) (hl : EvO X ks F lo g) (hh : EvO X ks F hi h) : EvN X ks F (.Subscript e (.Slice lo hi none p2) pos) (cSl f g h) := by
  obtain ⟨t, p, q⟩ := he.ex
  obtain ⟨tl, pl, ql⟩ := hl.ex
  obtain ⟨th, ph, qh⟩ := hh.ex
  refine ⟨_, pe_slice (sl_list.or (sl_tupA.or sl_str)) p pl ph, fun σ H P ρ Q d fr er ev k => ?_⟩
  obtain ⟨x, e1, ev1⟩ := Option.bind_eq_some_iff.mp ev
  obtain ⟨l, e2, ev2⟩ := Option.bind_eq_some_iff.mp ev1
  obtain ⟨u, e3, ev3⟩ := Option.bind_eq_some_iff.mp ev2
  refine q σ H P ρ _ x fr er e1 fun v H1 s1 r1 => ?_
  refine ql σ H1 P ρ _ l (fr.same s1) (er.same s1) e2 fun H2 s2 => ?_
  refine qh σ H2 P ρ _ u ((fr.same s1).same s2) ((er.same s1).same s2) e3 fun H3 s3 => ?_
  have s := (s1.trans s2).trans s3
  have r := (r1.same s2).same s3
  cases x <;> simp only [slcD] at ev3 <;> first | (cases ev3; done) | skip
  · split at ev3
    · rename_i c
      cases ev3
      simp only [RepB] at r
      exact .inr (.inr ⟨_, r, of_decide_eq_true c, k _ H3 s ⟨by simp only [Rep], trivial⟩⟩)
    · cases ev3
  · cases ev3
    obtain ⟨a, vs, rfl, h1, h2⟩ := r.tup
    refine .inr (.inl ⟨a, vs, rfl, SqT.of h1, fun c => ?_, fun c p hp => ?_⟩)
    · refine k _ H3 s ⟨?_, trivial⟩
      have h3 := h2.cut l u
      have : cutV vs l u = vs := by unfold cutV; rw [c.1, c.2]; simp
      rw [this] at h3
      simp only [Rep]
      exact ⟨a, vs, rfl, h1, h3⟩
    · exact k _ _ (s.trans (same_new hp)) ⟨rep_newT hp (h2.cut l u), trivial⟩
  · cases ev3
    obtain ⟨a, vs, rfl, h1, h2⟩ := r.lst
    refine .inl ⟨a, vs, rfl, SqL.of h1, fun p hp => ?_⟩
    exact k _ _ (s.trans (same_new hp)) ⟨rep_newL (((fr.same s1).same s2).same s3) hp (h2.cut l u), topNew_ref (s.free hp)⟩
end
end RE
/-! RE6: built-ins, in. -/
namespace RE
open PySem PySem.Spec PyProof.Rows L2

/-! ### one or two arguments -/
theorem repA1 {mg : Str → Option Value} {P : Addr → Prop} {H : Hp} {x : D} {vs : List V} (h : RepA mg P H [.B, .B, .B, .B] [x] vs) : ∃ v, vs = [v] ∧ RepB mg P H x v := by
  obtain ⟨v, r, rfl, h1, h2⟩ := h
  rw [show r = [] from h2]
  exact ⟨v, rfl, h1⟩
theorem repA2 {mg : Str → Option Value} {P : Addr → Prop} {H : Hp} {x y : D} {vs : List V} (h : RepA mg P H [.B, .B, .B, .B] [x, y] vs) : ∃ v w, vs = [v, w] ∧ RepB mg P H x v ∧ RepB mg P H y w := by
  obtain ⟨v, r, rfl, h1, w, r', rfl, h2, h3⟩ := h
  rw [show r' = [] from h3]
  exact ⟨v, w, rfl, h1, h2⟩
def op1 (op : D → Option D) : List D → Option D
  | [x] => op x
  | _ => none
def op2 (op : D → D → Option D) : List D → Option D
  | [x, y] => op x y
  | _ => none
theorem rc1 {mg : Str → Option Value} {r : List V → Hp → VK → Prop} {op : D → Option D}
    (h : ∀ (P : Addr → Prop) (H : Hp) (x d : D) (v : V) (Q : VK), Fre P H → RepB mg P H x v → op x = some d → (∀ z H', Same H H' → Rep P H' d z → TopNew H d z → Q z H') → r [v] H Q) : RcOk mg r (op1 op) := by
  intro P H xs d vs Q fr ra e k
  match xs, e with
  | [x], e =>
    obtain ⟨v, rfl, rb⟩ := repA1 ra
    exact h P H x d v Q fr rb e k
theorem rc2 {mg : Str → Option Value} {r : List V → Hp → VK → Prop} {op : D → D → Option D}
    (h : ∀ (P : Addr → Prop) (H : Hp) (x y d : D) (v w : V) (Q : VK), Fre P H → RepB mg P H x v → RepB mg P H y w → op x y = some d → (∀ z H', Same H H' → Rep P H' d z → TopNew H d z → Q z H') → r [v, w] H Q) : RcOk mg r (op2 op) := by
  intro P H xs d vs Q fr ra e k
  match xs, e with
  | [x, y], e =>
    obtain ⟨v, w, rfl, rb, rb'⟩ := repA2 ra
    exact h P H x y d v w Q fr rb rb' e k

/-! ### len -/
def lenD : D → Option D
  | .str s => if fits s.length then some (.int s.length) else none
  | .lst xs => some (.int xs.length)
  | .tup xs => some (.int xs.length)
  | .scr ns => some (.int ns.length)
  | .dic _ kvs => some (.int kvs.length)
  | _ => none
theorem call_lenR {X : Cx} : CallR X (.builtin "len") (fun xs H Q => ∃ a n, xs = [V.ref a] ∧ ((∃ kvs : List (Key × V), Rd H a (.dK kvs) ∧ n = kvs.length) ∨ ∃ kvs : List (List Key × V), Rd H a (.dT kvs) ∧ n = kvs.length) ∧ Q (.int (n : Nat)) H) := by
  intro pins s σ H xs us Q I r h
  obtain ⟨a, n, rfl, h, q⟩ := h
  obtain ⟨u, rfl, rx⟩ := vals1 r
  obtain rfl : u = .ref a := rx
  rcases h with ⟨kvs, e, rfl⟩ | ⟨kvs, e, rfl⟩
  · exact d_len I e fun t s' I' => ⟨.int ((kvs.length : Nat) : Int), H, I', ⟨t, rfl⟩, q⟩
  · obtain ⟨z, hd, ys, rel, dd⟩ := dt_rd I.hok e
    have hl : kvs.length = ys.length := Paired.length rel
    refine call_len_dictH hd dd (by rw [sizeLine_eq] at z; omega) ?_
    rw [← hl]
    exact ⟨.int ((kvs.length : Nat) : Int), H, I.tok _, ⟨_, rfl⟩, q⟩
abbrev rLenD (K : PySem.W.Frag) : List V → Hp → VK → Prop := fun xs H Q => (∃ x n, xs = [x] ∧ LenV K x H n ∧ Q (.int n) H) ∨ (∃ a n, xs = [V.ref a] ∧ ((∃ kvs : List (Key × V), Rd H a (.dK kvs) ∧ n = kvs.length) ∨ ∃ kvs : List (List Key × V), Rd H a (.dT kvs) ∧ n = kvs.length) ∧ Q (.int (n : Nat)) H)
theorem call_lenD2 {X : Cx} : CallR X (.builtin "len") (rLenD X.K) := call_len.or call_lenR
theorem lenD_ok {mg K} : RcOk mg (rLenD K) (op1 lenD) := rc1 fun P H x d v Q fr rx e k => by
  cases x <;> simp only [lenD] at e <;> first | (cases e; done) | skip
  · split at e
    · rename_i c
      cases e
      simp only [RepB] at rx
      exact .inl ⟨v, _, rfl, by subst rx; exact ⟨of_decide_eq_true c, rfl⟩, k _ H (Same.refl H) (by simp only [Rep]) trivial⟩
    · cases e
  · cases e
    obtain ⟨a, vs, rfl, h1, h2⟩ := rx.tup
    exact .inl ⟨_, _, rfl, .inr ⟨vs, SqT.of h1, h2.len.symm⟩, k _ H (Same.refl H) (by simp only [Rep]) trivial⟩
  · cases e
    obtain ⟨a, vs, rfl, h1, h2⟩ := rx.lst
    exact .inl ⟨_, _, rfl, .inl ⟨vs, SqL.of h1, h2.len.symm⟩, k _ H (Same.refl H) (by simp only [Rep]) trivial⟩
  · cases e
    obtain ⟨a, ps, rfl, h1, h2⟩ := rx.dic
    have hl := h2.len
    rename_i t kvs
    cases t with
    | false =>
      obtain ⟨ks, rd, rfl⟩ := h1
      exact .inr ⟨a, kvs.length, rfl, .inl ⟨ks, rd, by rw [← hl, List.length_map]⟩, k _ H (Same.refl H) (by simp only [Rep]) trivial⟩
    | true =>
      obtain ⟨ks, rd, rfl⟩ := h1
      exact .inr ⟨a, kvs.length, rfl, .inr ⟨ks, rd, by rw [← hl, List.length_map]⟩, k _ H (Same.refl H) (by simp only [Rep]) trivial⟩
  · cases e
    simp only [RepB, Rep] at rx
    obtain ⟨a, o, rfl, h1⟩ := rx
    exact .inl ⟨_, _, rfl, .inl ⟨_, .inl (.inr ⟨o, h1⟩), by rw [List.length_map]⟩, k _ H (Same.refl H) (by simp only [Rep]) trivial⟩

/-! ### abs, min, max of two numbers; int, bool -/
def absD : D → Option D
  | .int i => some (.int (if i < 0 then -i else i))
  | _ => none
theorem absD_ok {mg} : RcOk mg (fun xs H Q => ∃ i, xs = [.int i] ∧ Q (.int (if i < 0 then -i else i)) H) (op1 absD) := rc1 fun P H x d v Q fr rx e k => by
  cases x <;> simp only [absD] at e <;> first | (cases e; done) | skip
  cases e
  simp only [RepB] at rx
  subst rx
  exact ⟨_, rfl, k _ H (Same.refl H) (by simp only [Rep]) trivial⟩
def max2D : D → D → Option D
  | .int i, .int j => some (.int (if j > i then j else i))
  | _, _ => none
def min2D : D → D → Option D
  | .int i, .int j => some (.int (if j < i then j else i))
  | _, _ => none
theorem max2D_ok {mg} : RcOk mg (fun xs H Q => ∃ i j, xs = [.int i, .int j] ∧ Q (.int (if j > i then j else i)) H) (op2 max2D) := rc2 fun P H x y d v w Q fr rx ry e k => by
  cases x <;> cases y <;> simp only [max2D] at e <;> first | (cases e; done) | skip
  cases e
  simp only [RepB] at rx ry
  subst rx ry
  exact ⟨_, _, rfl, k _ H (Same.refl H) (by simp only [Rep]) trivial⟩
theorem min2D_ok {mg} : RcOk mg (fun xs H Q => ∃ i j, xs = [.int i, .int j] ∧ Q (.int (if j < i then j else i)) H) (op2 min2D) := rc2 fun P H x y d v w Q fr rx ry e k => by
  cases x <;> cases y <;> simp only [min2D] at e <;> first | (cases e; done) | skip
  cases e
  simp only [RepB] at rx ry
  subst rx ry
  exact ⟨_, _, rfl, k _ H (Same.refl H) (by simp only [Rep]) trivial⟩
def int1D : D → Option D
  | .int i => some (.int i)
  | .bl b => some (.int (if b then 1 else 0))
  | _ => none
def bool1D : D → Option D
  | .int i => some (.bl (i != 0))
  | .bl b => some (.bl b)
  | _ => none
theorem int1D_ok {mg} : RcOk mg (fun xs H Q => (∃ i, xs = [.int i] ∧ Q (.int i) H) ∨ ∃ k, xs = [.bl k] ∧ Q (.int (if k then 1 else 0)) H) (op1 int1D) := rc1 fun P H x d v Q fr rx e k => by
  cases x <;> simp only [int1D] at e <;> first | (cases e; done) | skip
  · cases e
    simp only [RepB] at rx
    subst rx
    exact .inr ⟨_, rfl, k _ H (Same.refl H) (by simp only [Rep]) trivial⟩
  · cases e
    simp only [RepB] at rx
    subst rx
    exact .inl ⟨_, rfl, k _ H (Same.refl H) (by simp only [Rep]) trivial⟩
theorem bool1D_ok {mg} : RcOk mg (fun xs H Q => (∃ i, xs = [.int i] ∧ Q (.bl (i != 0)) H) ∨ ∃ k, xs = [.bl k] ∧ Q (.bl k) H) (op1 bool1D) := rc1 fun P H x d v Q fr rx e k => by
  cases x <;> simp only [bool1D] at e <;> first | (cases e; done) | skip
  · cases e
    simp only [RepB] at rx
    subst rx
    exact .inr ⟨_, rfl, k _ H (Same.refl H) (by simp only [Rep]) trivial⟩
  · cases e
    simp only [RepB] at rx
    subst rx
    exact .inl ⟨_, rfl, k _ H (Same.refl H) (by simp only [Rep]) trivial⟩

/-! ### list, tuple -/
def listD : D → Option D
  | .lst xs => some (.lst xs)
  | .tup xs => some (.lst xs)
  | _ => none
def tupleD : D → Option D
  | .lst xs => some (.tup xs)
  | .tup xs => some (.tup xs)
  | _ => none
theorem listD_ok {mg K} : RcOk mg (fun xs H Q => ∃ p ys, xs = [.ref p] ∧ (SqL K H p ys ∨ SqT K H p ys) ∧ ∀ l, H l = none → Q (.ref l) (upd H l (.lst ys))) (op1 listD) := rc1 fun P H x d v Q fr rx e k => by
  cases x <;> simp only [listD] at e <;> first | (cases e; done) | skip
  · cases e
    obtain ⟨a, vs, rfl, h1, h2⟩ := rx.tup
    exact ⟨a, vs, rfl, .inr (SqT.of h1), fun p hp => k _ _ (same_new hp) (rep_newL fr hp h2) (topNew_ref hp)⟩
  · cases e
    obtain ⟨a, vs, rfl, h1, h2⟩ := rx.lst
    exact ⟨a, vs, rfl, .inl (SqL.of h1), fun p hp => k _ _ (same_new hp) (rep_newL fr hp h2) (topNew_ref hp)⟩
theorem tupleD_ok {mg K} : RcOk mg (fun xs H Q => ∃ p ys, xs = [.ref p] ∧ ((SqL K H p ys ∧ ∀ l, H l = none → Q (.ref l) (upd H l (.tup ys))) ∨ (SqT K H p ys ∧ Q (.ref p) H))) (op1 tupleD) := rc1 fun P H x d v Q fr rx e k => by
  cases x <;> simp only [tupleD] at e <;> first | (cases e; done) | skip
  · cases e
    obtain ⟨a, vs, rfl, h1, h2⟩ := rx.tup
    exact ⟨a, vs, rfl, .inr ⟨SqT.of h1, k _ H (Same.refl H) (by simp only [Rep]; exact ⟨a, vs, rfl, h1, h2⟩) trivial⟩⟩
  · cases e
    obtain ⟨a, vs, rfl, h1, h2⟩ := rx.lst
    exact ⟨a, vs, rfl, .inl ⟨SqL.of h1, fun p hp => k _ _ (same_new hp) (rep_newT hp h2) trivial⟩⟩

/-! ### any, all, sum -/
def blsD : List D → Option (List Bool)
  | [] => some []
  | .bl b :: xs => (blsD xs).map (b :: ·)
  | _ :: _ => none
def intsD : List D → Option (List Int)
  | [] => some []
  | .int b :: xs => (intsD xs).map (b :: ·)
  | _ :: _ => none
def anyD : D → Option D
  | .lst xs => (blsD xs).map fun bs => .bl (bs.any id)
  | _ => none
def allD : D → Option D
  | .lst xs => (blsD xs).map fun bs => .bl (bs.all id)
  | _ => none
def sumD : D → Option D
  | .lst xs => (intsD xs).map fun ns => .int ns.sum
  | _ => none
theorem RepL.bls {P : Addr → Prop} {H : Hp} : ∀ {ds : List D} {bs : List Bool} {vs : List V}, blsD ds = some bs → RepL P H ds vs → vs = bs.map V.bl
  | [], bs, vs, e, h => by simp only [blsD] at e; cases e; simp only [RepL] at h; subst h; rfl
  | d :: ds, bs, vs, e, h => by
    cases d <;> simp only [blsD] at e <;> first | (cases e; done) | skip
    obtain ⟨bs', e1, rfl⟩ := Option.map_eq_some_iff.mp e
    simp only [RepL, Rep] at h
    obtain ⟨v, r, rfl, rfl, h2⟩ := h
    rw [RepL.bls e1 h2]; rfl
theorem RepL.ints {P : Addr → Prop} {H : Hp} : ∀ {ds : List D} {bs : List Int} {vs : List V}, intsD ds = some bs → RepL P H ds vs → vs = bs.map V.int
  | [], bs, vs, e, h => by simp only [intsD] at e; cases e; simp only [RepL] at h; subst h; rfl
  | d :: ds, bs, vs, e, h => by
    cases d <;> simp only [intsD] at e <;> first | (cases e; done) | skip
    obtain ⟨bs', e1, rfl⟩ := Option.map_eq_some_iff.mp e
    simp only [RepL, Rep] at h
    obtain ⟨v, r, rfl, rfl, h2⟩ := h
    rw [RepL.ints e1 h2]; rfl
theorem anyD_ok {mg K} : RcOk mg (rAny K) (op1 anyD) := rc1 fun P H x d v Q fr rx e k => by
  cases x <;> simp only [anyD] at e <;> first | (cases e; done) | skip
  obtain ⟨bs, e1, rfl⟩ := Option.map_eq_some_iff.mp e
  obtain ⟨a, vs, rfl, h1, h2⟩ := rx.lst
  have := h2.bls e1
  subst this
  exact ⟨a, bs, rfl, SqL.of h1, k _ H (Same.refl H) (by simp only [Rep]) trivial⟩
theorem allD_ok {mg K} : RcOk mg (rAll K) (op1 allD) := rc1 fun P H x d v Q fr rx e k => by
  cases x <;> simp only [allD] at e <;> first | (cases e; done) | skip
  obtain ⟨bs, e1, rfl⟩ := Option.map_eq_some_iff.mp e
  obtain ⟨a, vs, rfl, h1, h2⟩ := rx.lst
  have := h2.bls e1
  subst this
  exact ⟨a, bs, rfl, SqL.of h1, k _ H (Same.refl H) (by simp only [Rep]) trivial⟩
theorem sumD_ok {mg K} : RcOk mg (rSum K) (op1 sumD) := rc1 fun P H x d v Q fr rx e k => by
  cases x <;> simp only [sumD] at e <;> first | (cases e; done) | skip
  obtain ⟨bs, e1, rfl⟩ := Option.map_eq_some_iff.mp e
  obtain ⟨a, vs, rfl, h1, h2⟩ := rx.lst
  have := h2.ints e1
  subst this
  exact ⟨a, bs, rfl, SqL.of h1, k _ H (Same.refl H) (by simp only [Rep]) trivial⟩

/-! ### in -/
def memD (x : D) (xs : List D) : Bool := xs.any fun y => eqv y x
def inB : D → D → Option Bool
  | .str a, .str b => match a.cps.toList with
    | [c] => some (decide (c ∈ b.cps.toList))
    | _ => none
  | x, .lst xs => if pd 64 x && xs.all (pd 64) then some (memD x xs) else none
  | x, .tup xs => if pd 64 x && xs.all (pd 64) then some (memD x xs) else none
  | x, .dic t kvs => (dget t kvs x).map fun o => o.isSome
  | _, _ => none
def inD (x y : D) : Option D := (inB x y).map .bl
def notInD (x y : D) : Option D := (inB x y).map fun b => .bl (!b)
theorem any_toP (x : D) : ∀ xs : List D, ((toPs xs).any fun y => PyData.eqv y (toP x)) = memD x xs := by
  intro xs
  rw [toPs_map, List.any_map]
  rfl
theorem one_cps {a : Str} {c : Nat} (h : a.cps.toList = [c]) : a = ⟨#[c]⟩ := by
  cases a with
  | mk cs => simp only at h; rw [← Array.toList_inj.mp (show cs.toList = #[c].toList from h)]
section
variable {X : Cx} {ks : Ks} {F : Fn} {pos : Pos}
/-- by data: in a list, a tuple -/
def rInP (K : PySem.W.Frag) (neg : Bool) : R2 := fun x y H Q => ∃ (d : PyData) (ds : List PyData), Dp K H x d ∧ (Dp K H y (.list ds) ∨ Dp K H y (.tuple ds)) ∧ d.plain = true ∧ PyData.plainAll ds = true ∧ d.depth ≤ 64 ∧ Q (.bl (if neg then !(ds.any fun z => PyData.eqv z d) else ds.any fun z => PyData.eqv z d)) H
theorem room_in1 {a b : Nat} (hu : X.A.units + 65 < cLine) (h : b ≤ 64) : X.A.units + 1 + min a b < cLine := by
  have : min a b ≤ b := Nat.min_le_right _ _
  omega
theorem op_inP (hu : X.A.units + 65 < cLine) : OpR X (compareOp .In) (rInP X.K false) := by
  intro pins s σ H x y v u Q I rx ry h
  obtain ⟨d, ds, hd, he, p1, p2, dd, q⟩ := h
  obtain ⟨as, r1⟩ := Dp.reads I d x v hd rx
  rcases he with he | he
  · obtain ⟨bs, r2⟩ := Dp.reads I _ y u he ry
    exact PySem.SeqAt.in_list_data r2 r1 p2 p1 (room_in1 hu dd) ⟨.bl _, H, I, rfl, q⟩
  · obtain ⟨bs, r2⟩ := Dp.reads I _ y u he ry
    exact PySem.SeqAt.in_tuple_data r2 r1 p2 p1 (room_in1 hu dd) ⟨.bl _, H, I, rfl, q⟩
theorem op_notInP (hu : X.A.units + 65 < cLine) : OpR X (compareOp .NotIn) (rInP X.K true) := by
  intro pins s σ H x y v u Q I rx ry h
  obtain ⟨d, ds, hd, he, p1, p2, dd, q⟩ := h
  obtain ⟨as, r1⟩ := Dp.reads I d x v hd rx
  rcases he with he | he
  · obtain ⟨bs, r2⟩ := Dp.reads I _ y u he ry
    exact PySem.SeqAt.notIn_list_data r2 r1 p2 p1 (room_in1 hu dd) ⟨.bl _, H, I, rfl, q⟩
  · obtain ⟨bs, r2⟩ := Dp.reads I _ y u he ry
    exact PySem.SeqAt.notIn_tuple_data r2 r1 p2 p1 (room_in1 hu dd) ⟨.bl _, H, I, rfl, q⟩
abbrev rInS' (neg : Bool) : R2 := fun x y H Q => ∃ (c : Nat) (z : Str), x = .str ⟨#[c]⟩ ∧ y = .str z ∧ Q (.bl (if neg then !decide (c ∈ z.cps.toList) else decide (c ∈ z.cps.toList))) H
theorem dps_of {K : PySem.W.Frag} {P : Addr → Prop} {H : Hp} {ds : List D} {vs : List V} (h : RepL P H ds vs) (hp : ds.all (pd 64) = true) : DpAll K H vs (toPs ds) ∧ PyData.plainAll (toPs ds) = true :=
  ⟨RepL.dp ds vs h ⟨64, hp⟩, (pds_ok (pd_ok 64) hp).1⟩
/-- the two parts of in: by sign or data; by a dict -/
theorem in_seq {neg : Bool} {x y : D} {b : Bool} {P : Addr → Prop} {H : Hp} {v w : V} {Q : VK} (hnd : ∀ t kvs, y ≠ .dic t kvs) (e : inB x y = some b) (r1 : RepB X.mg P H x v) (r2 : RepB X.mg P H y w)
    (k : ∀ z, z = V.bl (if neg then !b else b) → Q z H) : rInS' neg v w H Q ∨ rInP X.K neg v w H Q := by
  unfold inB at e
  split at e
  · split at e
    · rename_i c hc
      cases e
      simp only [RepB] at r1 r2
      subst r1 r2
      exact .inl ⟨c, _, by rw [one_cps hc], rfl, k _ rfl⟩
    · cases e
  · split at e
    · rename_i c
      cases e
      rw [Bool.and_eq_true] at c
      obtain ⟨a, vs, rfl, h1, h2⟩ := r2.lst
      have q := dps_of (K := X.K) h2 c.2
      refine .inr ⟨toP x, _, r1.dp c.1, .inl (.lst (SqL.of h1) q.1), (pd_ok _ _ c.1).1, q.2, (pd_ok _ _ c.1).2, ?_⟩
      rw [any_toP]
      exact k _ rfl
    · cases e
  · split at e
    · rename_i c
      cases e
      rw [Bool.and_eq_true] at c
      obtain ⟨a, vs, rfl, h1, h2⟩ := r2.tup
      have q := dps_of (K := X.K) h2 c.2
      refine .inr ⟨toP x, _, r1.dp c.1, .inr (.tup (SqT.of h1) q.1), (pd_ok _ _ c.1).1, q.2, (pd_ok _ _ c.1).2, ?_⟩
      rw [any_toP]
      exact k _ rfl
    · cases e
  · rename_i t kvs
    exact absurd rfl (hnd t kvs)
  · cases e
def isDic : D → Bool
  | .dic _ _ => true
  | _ => false
theorem isDic_ne {y : D} (h : isDic y = false) : ∀ t kvs, y ≠ .dic t kvs := fun t kvs e => by subst e; cases h
theorem isDic_eq {y : D} (h : isDic y = true) : ∃ t kvs, y = .dic t kvs := by
  cases y <;> first | exact ⟨_, _, rfl⟩ | cases h
theorem evN_in {a b : Expr} {f g : SE} (hu : X.A.units + 65 < cLine) (hm : behindInMarks .In b = false) (ha : EvP X ks F a f) (hb : EvP X ks F b g) : EvN X ks F (.Compare a [.In] [b] pos) (cB inD f g) := by
  obtain ⟨ta, pa, qa⟩ := ha.ex
  obtain ⟨tb, pb, qb⟩ := hb.ex
  refine ⟨_, pe_or2 (pe_cmpR (op_in_sign.or (op_inP hu)) pa pb hm) (pe_cmp (pc_din (by omega) pa pb) hm), fun σ H P ρ Q d fr er ev k => ?_⟩
  obtain ⟨x, e1, ev1⟩ := Option.bind_eq_some_iff.mp ev
  obtain ⟨y, e2, ev2⟩ := Option.bind_eq_some_iff.mp ev1
  obtain ⟨c, e3, rfl⟩ := Option.map_eq_some_iff.mp ev2
  cases hy : isDic y with
  | false =>
    refine .inl (qa σ H P ρ _ x fr er e1 fun v H1 s1 r1 => ?_)
    refine qb σ H1 P ρ _ y (fr.same s1) (er.same s1) e2 fun w H2 s2 r2 => ?_
    exact in_seq (X := X) (neg := false) (isDic_ne hy) e3 (r1.same s2) r2 fun z hz => k z H2 (s1.trans s2) ⟨by subst hz; simp [Rep], trivial⟩
  | true =>
    obtain ⟨t, kvs, rfl⟩ := isDic_eq hy
    simp only [inB] at e3
    obtain ⟨o, e4, rfl⟩ := Option.map_eq_some_iff.mp e3
    refine .inr (qa σ H P ρ _ x fr er e1 fun v H1 s1 r1 => ?_)
    refine qb σ H1 P ρ _ _ (fr.same s1) (er.same s1) e2 fun w H2 s2 r2 => ?_
    obtain ⟨q, ov, rfl, g, hov⟩ := dget_ok r2 (r1.same s2) e4
    refine ⟨q, ov, rfl, g, k _ H2 (s1.trans s2) ⟨?_, trivial⟩⟩
    cases o with
    | none => rw [show ov = none from hov]; simp only [Rep]; rfl
    | some d => obtain ⟨u, rfl, _⟩ := hov; simp only [Rep]; rfl
theorem evT_in {a b : Expr} {f g : SE} (hu : X.A.units + 65 < cLine) (hm : behindInMarks .In b = false) (ha : EvP X ks F a f) (hb : EvP X ks F b g) : EvT X ks F (.Compare a [.In] [b] pos) (cBT inD f g) := by
  obtain ⟨ta, pa, qa⟩ := ha.ex
  obtain ⟨tb, pb, qb⟩ := hb.ex
  refine ⟨fun σ H Q => tTest (tOp (fun x y H Q => _ ∨ _) ta tb) σ H Q ∨ tB (tDIn ta tb) σ H Q, ⟨fun pins s σ H Q I q => q.elim ((pt_cmpR (op_in_sign.or (op_inP hu)) pa pb hm).run pins s σ H Q I) ((pt_cmp (pc_din (by omega) pa pb) hm).run pins s σ H Q I)⟩, fun σ H P ρ Q c' fr er ev k => ?_⟩
  obtain ⟨d, e0, ev0⟩ := Option.bind_eq_some_iff.mp ev
  obtain ⟨x, e1, ev1⟩ := Option.bind_eq_some_iff.mp e0
  obtain ⟨y, e2, ev2⟩ := Option.bind_eq_some_iff.mp ev1
  obtain ⟨c, e3, rfl⟩ := Option.map_eq_some_iff.mp ev2
  cases ev0
  cases hy : isDic y with
  | false =>
    refine .inl (qa σ H P ρ _ x fr er e1 fun v H1 s1 r1 => ?_)
    refine qb σ H1 P ρ _ y (fr.same s1) (er.same s1) e2 fun w H2 s2 r2 => ?_
    exact in_seq (X := X) (neg := false) (Q := fun x H' => ∃ k, x = V.bl k ∧ Q k H') (isDic_ne hy) e3 (r1.same s2) r2 fun z hz => ⟨c', by subst hz; rfl, k H2 (s1.trans s2)⟩
  | true =>
    obtain ⟨t, kvs, rfl⟩ := isDic_eq hy
    simp only [inB] at e3
    obtain ⟨o, e4, rfl⟩ := Option.map_eq_some_iff.mp e3
    refine .inr (qa σ H P ρ _ x fr er e1 fun v H1 s1 r1 => ?_)
    refine qb σ H1 P ρ _ _ (fr.same s1) (er.same s1) e2 fun w H2 s2 r2 => ?_
    obtain ⟨q, ov, rfl, g, hov⟩ := dget_ok r2 (r1.same s2) e4
    refine ⟨q, ov, rfl, g, o.isSome, ?_, k H2 (s1.trans s2)⟩
    cases o with
    | none => rw [show ov = none from hov]; rfl
    | some d => obtain ⟨u, rfl, _⟩ := hov; rfl
theorem evN_notIn {a b : Expr} {f g : SE} (hu : X.A.units + 65 < cLine) (hm : behindInMarks .NotIn b = false) (ha : EvP X ks F a f) (hb : EvP X ks F b g) : EvN X ks F (.Compare a [.NotIn] [b] pos) (cB notInD f g) := by
  obtain ⟨ta, pa, qa⟩ := ha.ex
  obtain ⟨tb, pb, qb⟩ := hb.ex
  refine ⟨_, pe_or2 (pe_cmpR (op_notIn_sign.or (op_notInP hu)) pa pb hm) (pe_cmp (pc_dnotin (by omega) pa pb) hm), fun σ H P ρ Q d fr er ev k => ?_⟩
  obtain ⟨x, e1, ev1⟩ := Option.bind_eq_some_iff.mp ev
  obtain ⟨y, e2, ev2⟩ := Option.bind_eq_some_iff.mp ev1
  obtain ⟨c, e3, rfl⟩ := Option.map_eq_some_iff.mp ev2
  cases hy : isDic y with
  | false =>
    refine .inl (qa σ H P ρ _ x fr er e1 fun v H1 s1 r1 => ?_)
    refine qb σ H1 P ρ _ y (fr.same s1) (er.same s1) e2 fun w H2 s2 r2 => ?_
    exact in_seq (X := X) (neg := true) (isDic_ne hy) e3 (r1.same s2) r2 fun z hz => k z H2 (s1.trans s2) ⟨by subst hz; simp [Rep], trivial⟩
  | true =>
    obtain ⟨t, kvs, rfl⟩ := isDic_eq hy
    simp only [inB] at e3
    obtain ⟨o, e4, rfl⟩ := Option.map_eq_some_iff.mp e3
    refine .inr (qa σ H P ρ _ x fr er e1 fun v H1 s1 r1 => ?_)
    refine qb σ H1 P ρ _ _ (fr.same s1) (er.same s1) e2 fun w H2 s2 r2 => ?_
    obtain ⟨q, ov, rfl, g, hov⟩ := dget_ok r2 (r1.same s2) e4
    refine ⟨q, ov, rfl, g, k _ H2 (s1.trans s2) ⟨?_, trivial⟩⟩
    cases o with
    | none => rw [show ov = none from hov]; simp only [Rep]; rfl
    | some d => obtain ⟨u, rfl, _⟩ := hov; simp only [Rep]; rfl
theorem evT_notIn {a b : Expr} {f g : SE} (hu : X.A.units + 65 < cLine) (hm : behindInMarks .NotIn b = false) (ha : EvP X ks F a f) (hb : EvP X ks F b g) : EvT X ks F (.Compare a [.NotIn] [b] pos) (cBT notInD f g) := by
  obtain ⟨ta, pa, qa⟩ := ha.ex
  obtain ⟨tb, pb, qb⟩ := hb.ex
  refine ⟨fun σ H Q => tTest (tOp (fun x y H Q => _ ∨ _) ta tb) σ H Q ∨ tB (tDNotIn ta tb) σ H Q, ⟨fun pins s σ H Q I q => q.elim ((pt_cmpR (op_notIn_sign.or (op_notInP hu)) pa pb hm).run pins s σ H Q I) ((pt_cmp (pc_dnotin (by omega) pa pb) hm).run pins s σ H Q I)⟩, fun σ H P ρ Q c' fr er ev k => ?_⟩
  obtain ⟨d, e0, ev0⟩ := Option.bind_eq_some_iff.mp ev
  obtain ⟨x, e1, ev1⟩ := Option.bind_eq_some_iff.mp e0
  obtain ⟨y, e2, ev2⟩ := Option.bind_eq_some_iff.mp ev1
  obtain ⟨c, e3, rfl⟩ := Option.map_eq_some_iff.mp ev2
  cases ev0
  cases hy : isDic y with
  | false =>
    refine .inl (qa σ H P ρ _ x fr er e1 fun v H1 s1 r1 => ?_)
    refine qb σ H1 P ρ _ y (fr.same s1) (er.same s1) e2 fun w H2 s2 r2 => ?_
    exact in_seq (X := X) (neg := true) (Q := fun x H' => ∃ k, x = V.bl k ∧ Q k H') (isDic_ne hy) e3 (r1.same s2) r2 fun z hz => ⟨!c, by subst hz; rfl, k H2 (s1.trans s2)⟩
  | true =>
    obtain ⟨t, kvs, rfl⟩ := isDic_eq hy
    simp only [inB] at e3
    obtain ⟨o, e4, rfl⟩ := Option.map_eq_some_iff.mp e3
    refine .inr (qa σ H P ρ _ x fr er e1 fun v H1 s1 r1 => ?_)
    refine qb σ H1 P ρ _ _ (fr.same s1) (er.same s1) e2 fun w H2 s2 r2 => ?_
    obtain ⟨q, ov, rfl, g, hov⟩ := dget_ok r2 (r1.same s2) e4
    refine ⟨q, ov, rfl, g, !o.isSome, ?_, k H2 (s1.trans s2)⟩
    cases o with
    | none => rw [show ov = none from hov]; rfl
    | some d => obtain ⟨u, rfl, _⟩ := hov; rfl

/-! ### isinstance -/
def tyN : D → Option String
  | .non => some "NoneType"
  | .bl _ => some "bool"
  | .int _ => some "int"
  | .str _ => some "str"
  | .tup _ => some "tuple"
  | .lst _ => some "list"
  | _ => none
def isTy (t T : String) : Bool := t == T || (t == "bool" && T == "int")
def tyKnown (T : String) : Bool := T == "int" || T == "bool" || T == "str" || T == "tuple" || T == "list"
theorem kit_known {K : PySem.W.Frag} {d : D} {t T : String} (h : tyN d = some t) (hT : tyKnown T = true) : PySem.W.kitOne K (.type t) (.type T) = some (isTy t T) := by
  have q : ∀ a ∈ ["NoneType", "bool", "int", "str", "tuple", "list"], ∀ b ∈ ["int", "bool", "str", "tuple", "list"], kitB a b = some (isTy a b) := by decide +kernel
  refine kit_ty (q t ?_ T ?_)
  · cases d <;> simp only [tyN] at h <;> cases h <;> decide
  · unfold tyKnown at hT
    simp only [Bool.or_eq_true, beq_iff_eq] at hT
    rcases hT with (((rfl | rfl) | rfl) | rfl) | rfl <;> decide
theorem tyX_of {mg : Str → Option Value} {K : PySem.W.Frag} {P : Addr → Prop} {H : Hp} {d : D} {v : V} {t : String} (r : RepB mg P H d v) (h : tyN d = some t) : TyX K H v (.type t) := by
  cases d <;> simp only [tyN] at h <;> cases h <;> simp only [RepB, Rep] at r
  · subst r; exact .base .non
  · subst r; exact .base (.bl _)
  · subst r; exact .base (.int _)
  · subst r; exact .base (.str _)
  · obtain ⟨a, vs, rfl, h1, _⟩ := r; exact .base (.tup h1)
  · obtain ⟨a, vs, rfl, h1, _⟩ := r; exact .base (.lst h1)
def isiD (Ts : List String) (d : D) : Option D := (tyN d).map fun t => .bl (Ts.any fun T => isTy t T)
theorem evN_isi {p p2 : Pos} {T : String} {e : Expr} {f : SE} (hg : Gl X "isinstance") (hm : X.mg "isinstance" = none) (hT : tyKnown T = true) (hgT : Gl X (Str.ofString T)) (hmT : X.mg (Str.ofString T) = none) (hbT : bootBuiltins (Str.ofString T) = some (.type T)) (hnT : (Str.ofString T) ≠ "__name__") (hdT : ((Str.ofString T) == ("__debug__" : Str)) = false)
    (hs : noStar e = true) (h : EvP X ks F e f) : EvN X ks F (.Call (.Name "isinstance" p) [e, .Name (Str.ofString T) p2] [] pos) (cU (isiD [T]) f) := by
  obtain ⟨t, pt, q⟩ := h.ex
  refine ⟨_, pe_callB call_isi hg hm boot_isinstance (pa_cons pt (pa_cons (pe_bltn (v := .ty T) hgT hmT hbT rfl hnT hdT) pa_nil) (starEach_cons (noStar_ne hs))) (by decide) (by decide) (starEach_cons (noStar_ne hs)) (by rfl), fun σ H P ρ Q d fr er ev k => ?_⟩
  obtain ⟨x, e1, ev1⟩ := Option.bind_eq_some_iff.mp ev
  obtain ⟨ty, e2, rfl⟩ := Option.map_eq_some_iff.mp ev1
  refine q σ H P ρ _ x fr er e1 fun v H1 s1 r1 => ?_
  refine ⟨v, .ty T, .type ty, .type T, isTy ty T, rfl, .ty T, tyX_of r1 e2, kit_known e2 hT, ?_⟩
  exact k _ H1 s1 ⟨by simp [Rep], trivial⟩
theorem evN_isi2 {p p2 p3 p4 : Pos} {kt} {T U : String} {e : Expr} {f : SE} (hg : Gl X "isinstance") (hm : X.mg "isinstance" = none)
    (hT : tyKnown T = true) (hgT : Gl X (Str.ofString T)) (hmT : X.mg (Str.ofString T) = none) (hbT : bootBuiltins (Str.ofString T) = some (.type T)) (hnT : (Str.ofString T) ≠ "__name__") (hdT : ((Str.ofString T) == ("__debug__" : Str)) = false)
    (hU : tyKnown U = true) (hgU : Gl X (Str.ofString U)) (hmU : X.mg (Str.ofString U) = none) (hbU : bootBuiltins (Str.ofString U) = some (.type U)) (hnU : (Str.ofString U) ≠ "__name__") (hdU : ((Str.ofString U) == ("__debug__" : Str)) = false)
    (hs : noStar e = true) (h : EvP X ks F e f) : EvN X ks F (.Call (.Name "isinstance" p) [e, .Tuple [.Name (Str.ofString T) p2, .Name (Str.ofString U) p3] kt p4] [] pos) (cU (isiD [T, U]) f) := by
  obtain ⟨t, pt, q⟩ := h.ex
  refine ⟨_, pe_callB call_isiT hg hm boot_isinstance (pa_cons pt (pa_cons (pe_tup (pa_cons (pe_bltn (v := .ty T) hgT hmT hbT rfl hnT hdT) (pa_cons (pe_bltn (v := .ty U) hgU hmU hbU rfl hnU hdU) pa_nil))) pa_nil) (starEach_cons (noStar_ne hs))) (by decide) (by decide) (starEach_cons (noStar_ne hs)) (by rfl), fun σ H P ρ Q d fr er ev k => ?_⟩
  obtain ⟨x, e1, ev1⟩ := Option.bind_eq_some_iff.mp ev
  obtain ⟨ty, e2, rfl⟩ := Option.map_eq_some_iff.mp ev1
  refine q σ H P ρ _ x fr er e1 fun v H1 s1 r1 => ?_
  refine ⟨by show 2 ≤ sizeLine; decide, fun tp hp => ?_⟩
  refine ⟨v, tp, [.ty T, .ty U], .type ty, [.type T, .type U], [T, U].any fun T => isTy ty T, rfl, upd_same, .cons (.ty T) (.cons (.ty U) .nil), tyX_of (r1.same (same_new hp)) e2, ?_, ?_⟩
  · unfold PySem.W.kitAny
    rw [kit_known e2 hT]
    cases hh : isTy ty T with
    | true => simp [hh]
    | false =>
      simp only [List.any_cons, List.any_nil, hh, Bool.false_or, Bool.or_false]
      unfold PySem.W.kitAny
      rw [kit_known e2 hU]
      cases isTy ty U <;> rfl
  · exact k _ _ (s1.trans (same_new hp)) ⟨by simp only [Rep], trivial⟩
end
end RE
/-! RE7a: what enumerate and zip walk: lists, tuples, texts, in any mix. -/
namespace RE
open PySem PySem.Spec PyProof.Rows L2

/-- a walked thing: a list or a tuple at a place, or a text -/
inductive Sk where
  | l (a : Addr) | t (a : Addr) | s (z : Str)
def SkAt (H : Hp) : Sk → List V → Prop
  | .l a, xs => Rd H a (.lst xs)
  | .t a, xs => H a = some (.tup xs)
  | .s z, xs => xs = z.cps.toList.map fun c => .str ⟨#[c]⟩
def SkIt (it : Addr) : Sk → Nat → Heap → Prop
  | .l a, i, h => h.IsListIter it a i
  | .t a, i, h => h.IsTupleIter it a i
  | .s z, i, h => ∃ t, h.IsStrIter it (strIterType z) z t i
theorem Rd.lst_inj {H : Hp} {a : Addr} {xs ys : List V} (h : Rd H a (.lst xs)) (g : Rd H a (.lst ys)) : xs = ys := by
  rcases h with h | ⟨o, h⟩ <;> rcases g with g | ⟨o', g⟩ <;> (rw [h] at g; cases g; try rfl)
theorem SkAt.inj {H : Hp} {k : Sk} {xs ys : List V} (h : SkAt H k xs) (g : SkAt H k ys) : xs = ys := by
  cases k with
  | l a => exact Rd.lst_inj h g
  | t a => have h : H a = _ := h; rw [show H a = _ from g] at h; cases h; rfl
  | s z => rw [show xs = _ from h, show ys = _ from g]
theorem SkIt.obj {it : Addr} {k : Sk} {i : Nat} {h : Heap} (x : SkIt it k i h) : ∃ o, h.get? it = some o ∧ ∀ v, o.data ≠ .cell v := by
  cases k with
  | l a => obtain ⟨o, e, c, d⟩ := x; exact ⟨o, e, fun v z => by rw [d] at z; cases z⟩
  | t a => obtain ⟨o, e, c, d⟩ := x; exact ⟨o, e, fun v z => by rw [d] at z; cases z⟩
  | s z => obtain ⟨t, o, e, c, d⟩ := x; exact ⟨o, e, fun v z => by rw [d] at z; cases z⟩
theorem SkIt.keep {it : Addr} {k : Sk} {i : Nat} {h h' : Heap} (x : SkIt it k i h) (q : ∀ o, h.get? it = some o → h'.get? it = some o) : SkIt it k i h' := by
  cases k with
  | l a => exact Heap.IsListIter.at x q
  | t a => exact Heap.IsTupleIter.at x q
  | s z => obtain ⟨t, o, e, c, d⟩ := x; exact ⟨t, o, q o e, c, d⟩
/-- what the walked thing's iterator draws, here and now -/
theorem sk_draws {X : Cx} {pins : List (Addr × Obj)} {σ : L2.St} {H : Hp} {s : Shared} {k : Sk} {xs : List V} {it : Addr} {i : Nat} (I : Inv X pins σ H s) (hc : X.calm = true) (hk : SkAt H k xs) (hi : SkIt it k i s.heap) (hn : H it = none) :
    ∃ (fp : List Addr) (P : Nat → Value → Prop) (St : Nat → Heap → Prop), Draws X.prog X.w X.A.in1 it fp xs.length P St ∧ St i s.heap ∧ (∀ j u, P j u → ∃ x, xs[j]? = some x ∧ RelV x u) ∧ (∀ j h, St j h → SkIt it k j h) ∧ it ∈ fp ∧ ∀ b ∈ fp, b = it ∨ H b ≠ none := by
  have hh : X.A.in1.handled = none := I.ok.hd hc
  cases k with
  | l a =>
    obtain ⟨its, rv, p, hz⟩ := I.list (show SqL X.K H a xs from .inl hk)
    have hne : a ≠ it := fun e => by
      rcases hk with q | ⟨o, q⟩ <;> rw [e, hn] at q <;> cases q
    have hl : its.toArray.size = xs.length := by rw [List.size_toArray]; exact rv.length.symm
    refine ⟨[it, a], (fun j u => its.toArray[j]? = some u), (fun j h => h.IsListIter it a j ∧ h.IsList a its.toArray), by rw [← hl]; exact Draws.list hh it a hne its.toArray, ⟨hi, p.isList⟩, fun j u e => ?_, fun j h x => x.1, by simp, fun b hb => ?_⟩
    · have e : its[j]? = some u := by simpa using e
      cases q : xs[j]? with
      | none => rw [rv.none_of q] at e; cases e
      | some x =>
        obtain ⟨u', e1, r⟩ := rv.get q
        rw [e] at e1; cases e1
        exact ⟨x, rfl, r⟩
    · rcases List.mem_cons.mp hb with e | hb
      · exact .inl e
      · rw [List.mem_singleton.mp hb]
        exact .inr (by rcases hk with q | ⟨o, q⟩ <;> (rw [q]; simp))
  | t a =>
    have hk : H a = some (.tup xs) := hk
    obtain ⟨its, rv, p, hz⟩ := I.tuple (SqT.of hk)
    have hne : a ≠ it := fun e => by rw [e, hn] at hk; cases hk
    have hl : its.toArray.size = xs.length := by rw [List.size_toArray]; exact rv.length.symm
    refine ⟨[it, a], (fun j u => its.toArray[j]? = some u), (fun j h => h.IsTupleIter it a j ∧ h.IsTuple a its.toArray), by rw [← hl]; exact Draws.tuple hh it a hne its.toArray, ⟨hi, p⟩, fun j u e => ?_, fun j h x => x.1, by simp, fun b hb => ?_⟩
    · have e : its[j]? = some u := by simpa using e
      cases q : xs[j]? with
      | none => rw [rv.none_of q] at e; cases e
      | some x =>
        obtain ⟨u', e1, r⟩ := rv.get q
        rw [e] at e1; cases e1
        exact ⟨x, rfl, r⟩
    · rcases List.mem_cons.mp hb with e | hb
      · exact .inl e
      · rw [List.mem_singleton.mp hb]
        exact .inr (by rw [hk]; simp)
  | s z =>
    obtain ⟨t, hi⟩ := hi
    have hk : xs = z.cps.toList.map fun c => .str ⟨#[c]⟩ := hk
    have hl : z.cps.size = xs.length := by rw [hk, List.length_map]; simp
    refine ⟨[it], (fun j u => ∃ c v, z.cps[j]? = some c ∧ u = .str ⟨#[c]⟩ v), (fun j h => h.IsStrIter it (strIterType z) z t j), by rw [← hl]; exact Draws.text hh it z t, hi, fun j u e => ?_, fun j h x => ⟨t, x⟩, by simp, fun b hb => .inl (List.mem_singleton.mp hb)⟩
    obtain ⟨c, u', e1, e2⟩ := e
    refine ⟨.str ⟨#[c]⟩, ?_, by rw [e2]; exact ⟨u', rfl⟩⟩
    rw [hk, List.getElem?_map, Array.getElem?_toList, e1]; rfl

section
variable {P : Program} {w : World} {K : PySem.W.Frag} {elts : List Expr} {kk : Nat} {tpos : Pos}
/-- enumerate: at each turn a new pair -/
def Iteg (k : Sk) : It :=
  ⟨fun i H => ∃ xs x, SkAt H k xs ∧ xs[i]? = some x, fun i H v H' => ∃ T x, v = .ref T ∧ H T = none ∧ H' = upd H T (.tup [.int (i : Nat), x]) ∧ ∀ xs, SkAt H k xs → xs[i]? = some x, fun i H => ∃ xs, SkAt H k xs ∧ xs.length = i⟩
theorem turn_enumG (k : Sk) (e it : Addr) : Turn P w K (.Tuple elts kk tpos) (Iteg k) [e, it] e (fun i h => (∃ old, IsEnum h e it ((i : Nat) : Int) old) ∧ SkIt it k i h ∧ e ≠ it) where
  mem := List.mem_cons_self
  obj := fun i h st b hb => by
    obtain ⟨⟨old, q⟩, q2, _⟩ := st
    simp only [List.mem_cons, List.not_mem_nil, or_false] at hb
    rcases hb with rfl | rfl
    · exact ⟨_, q, (fun v z => nomatch z)⟩
    · exact q2.obj
  keep := fun i h h' st g => ⟨let ⟨old, q⟩ := st.1; ⟨old, g e (by simp) _ q⟩, st.2.1.keep fun o q => g it (by simp) o q, st.2.2⟩
  item := by
    intro X hP hw hK hc i pins s σ H E I hf st hg
    subst hP hw hK
    obtain ⟨⟨old, he⟩, hi, hne⟩ := st
    obtain ⟨xs, x, hx, hxi⟩ := hg
    have hlt : i < xs.length := (List.getElem?_eq_some_iff.mp hxi).1
    have nit := (hf it (by simp)).1
    have ne := (hf e (by simp)).1
    obtain ⟨fp, Pd, Sd, dr, sd, hp, hsk, hm, hfp⟩ := sk_draws I hc hx hi nit
    have hef : e ∉ fp := fun z => (hfp e z).elim (fun q => hne q) fun q => q ne
    have szE : e < s.heap.objs.size := Heap.lt_size he
    have szI : it < s.heap.objs.size := by obtain ⟨o, q, _⟩ := hi.obj; exact Heap.lt_size q
    refine wpAny_pyNext_enum_itemD dr he sd hlt hne hef fun u h1 tk hu hout sd' hT hsz hkp => ⟨_, rfl, ?_⟩
    refine wpAny_letOwnedTupleGo_enum (s := { s with heap := h1, toks := tk + 1 }) hout fun h2 he2 sb => ?_
    obtain ⟨y, hy, ry⟩ := hp i u hu
    rw [hxi] at hy; cases hy
    have hT2 := (sb.2 s.heap.objs.size (Nat.ne_of_gt szE)).trans hT
    have okT : ObjOk X.prog X.w (upd H s.heap.objs.size (.tup [.int (i : Nat), x])) h2 s.heap.objs.size (.tup [.int (i : Nat), x]) :=
      ⟨(by decide : 2 ≤ sizeLine), [.int i tk, u], .cons ⟨_, rfl⟩ (.cons ry .nil), _, hT2, rfl, _, rfl⟩
    have J : Inv X pins σ (upd H s.heap.objs.size (.tup [.int (i : Nat), x])) { s with heap := h2, toks := tk + 1 } := by
      refine I.turnedNew (ch := [e, it]) (fun b o hb q => ?_) hf (Nat.le_refl _) okT
      simp only [List.mem_cons, List.not_mem_nil, or_false, not_or] at hb
      exact (sb.2 b hb.1).trans (hkp b o hb.1 hb.2 q)
    refine ⟨.ref s.heap.objs.size, _, J, rfl, ⟨_, x, rfl, I.hok.fresh (Nat.le_refl _), rfl, fun ys hy => by rw [hy.inj hx]; exact hxi⟩, ⟨⟨u, by rw [show ((i + 1 : Nat) : Int) = (i : Int) + 1 from rfl]; exact he2⟩, (hsk _ _ sd').keep fun o q => (sb.2 it (Ne.symm hne)).trans q, hne⟩, fun b hb => ?_⟩
    have lt : b < s.heap.objs.size := by
      simp only [List.mem_cons, List.not_mem_nil, or_false] at hb
      rcases hb with rfl | rfl <;> assumption
    rw [upd_ne (Nat.ne_of_lt lt)]
    exact (hf b hb).1
  done := by
    intro X hP hw hK hc i pins s σ H E I hf st hg
    subst hP hw hK
    obtain ⟨⟨old, he⟩, hi, hne⟩ := st
    obtain ⟨xs, hx, rfl⟩ := hg
    obtain ⟨f0, f1, f2, f3, f4, f5⟩ := hf it (by simp)
    obtain ⟨fp, Pd, Sd, dr, sd, _⟩ := sk_draws I hc hx hi f0
    exact wpAny_pyNext_enum_endD dr he sd fun h1 eb => ⟨rfl, I.turned (t' := s.toks) (fun b o hb q => eb b o hb q) f0 f1 f3 f4 f5⟩
  self := fun A i s Q E st h => wpAny_pyIter_enum st.1.choose_spec h

/-- zip of two -/
def Itzg (k1 k2 : Sk) : It :=
  ⟨fun i H => ∃ xs ys x y, SkAt H k1 xs ∧ SkAt H k2 ys ∧ xs[i]? = some x ∧ ys[i]? = some y,
   fun i H v H' => ∃ T x y, v = .ref T ∧ H T = none ∧ H' = upd H T (.tup [x, y]) ∧ (∀ xs, SkAt H k1 xs → xs[i]? = some x) ∧ ∀ ys, SkAt H k2 ys → ys[i]? = some y,
   fun i H => ∃ xs ys, SkAt H k1 xs ∧ SkAt H k2 ys ∧ i = min xs.length ys.length⟩
/-- zip's own five cells stand apart -/
structure Ap5 (z TI TO i1 i2 : Addr) : Prop where
  a : TI ≠ z
  b : TO ≠ z
  c : TI ≠ TO
  d : TI ≠ i1
  e : TI ≠ i2
  f : z ≠ i1
  g : z ≠ i2
  h : TO ≠ i1
  i : TO ≠ i2
  j : i1 ≠ i2
theorem Ap5.sep {z TI TO i1 i2 : Addr} {fp1 fp2 : List Addr} {H : Hp} (D : Ap5 z TI TO i1 i2) (h1 : i1 ∈ fp1) (h2 : i2 ∈ fp2) (g1 : ∀ b ∈ fp1, b = i1 ∨ H b ≠ none) (g2 : ∀ b ∈ fp2, b = i2 ∨ H b ≠ none)
    (nz : H z = none) (nO : H TO = none) (n1 : H i1 = none) (n2 : H i2 = none) : ZipSep2 z TI TO i1 i2 fp1 fp2 where
  TIz := D.a
  TOz := D.b
  TITO := D.c
  TIi1 := D.d
  mem1 := h1
  zf1 := fun q => (g1 z q).elim D.f fun r => r nz
  Tf1 := fun q => (g1 TO q).elim D.h fun r => r nO
  TIi2 := D.e
  mem2 := h2
  zf2 := fun q => (g2 z q).elim D.g fun r => r nz
  Tf2 := fun q => (g2 TO q).elim D.i fun r => r nO
  sep1_2 := fun q => (g2 i1 q).elim D.j fun r => r n1
  sep2_1 := fun q => (g1 i2 q).elim (Ne.symm D.j) fun r => r n2
theorem turn_zipG {z TI TO i1 i2 : Addr} (k1 k2 : Sk) (D : Ap5 z TI TO i1 i2) : Turn P w K (.Tuple elts kk tpos) (Itzg k1 k2) [z, TI, TO, i1, i2] z
    (fun i h => IsZip h z TI TO .none ∧ IsTupOf2 h TI (.ref i1) (.ref i2) ∧ (∃ a1 a2, IsTupOf2 h TO a1 a2) ∧ SkIt i1 k1 i h ∧ SkIt i2 k2 i h) where
  mem := List.mem_cons_self
  obj := fun i h st b hb => by
    obtain ⟨q1, q2, ⟨a1, a2, q3⟩, q4, q5⟩ := st
    simp only [List.mem_cons, List.not_mem_nil, or_false] at hb
    rcases hb with rfl | rfl | rfl | rfl | rfl
    · exact ⟨_, q1, (fun v z => nomatch z)⟩
    · exact ⟨_, q2, (fun v z => nomatch z)⟩
    · exact ⟨_, q3, (fun v z => nomatch z)⟩
    · exact q4.obj
    · exact q5.obj
  keep := fun i h h' st g => ⟨g z (by simp) _ st.1, g TI (by simp) _ st.2.1, let ⟨a1, a2, q⟩ := st.2.2.1; ⟨a1, a2, g TO (by simp) _ q⟩, st.2.2.2.1.keep fun o q => g i1 (by simp) o q, st.2.2.2.2.keep fun o q => g i2 (by simp) o q⟩
  item := by
    intro X hP hw hK hc i pins s σ H E I hf st hg
    subst hP hw hK
    obtain ⟨hz, hTI, ⟨a1, a2, hTO⟩, hi1, hi2⟩ := st
    obtain ⟨xs, ys, x, y, hx, hy, hxi, hyi⟩ := hg
    have n1 := (hf i1 (by simp)).1
    have n2 := (hf i2 (by simp)).1
    have nz := (hf z (by simp)).1
    have nO := (hf TO (by simp)).1
    obtain ⟨fp1, P1, S1, d1, s1, p1, sk1, m1, g1⟩ := sk_draws I hc hx hi1 n1
    obtain ⟨fp2, P2, S2, d2, s2, p2, sk2, m2, g2⟩ := sk_draws I hc hy hi2 n2
    have sep := D.sep m1 m2 g1 g2 nz nO n1 n2
    have szz : z < s.heap.objs.size := Heap.lt_size hz
    refine wpAny_pyNext_zipD2_item sep d1 d2 hz hTI hTO s1 s2 (List.getElem?_eq_some_iff.mp hxi).1 (List.getElem?_eq_some_iff.mp hyi).1 fun u1 u2 h1 tk hu1 hu2 hz1 hTO1 s1' s2' hT hsz hkp => ⟨_, rfl, ?_⟩
    refine wpAny_letOwnedTupleGo_zip (s := { s with heap := h1, toks := tk }) hz1 fun h2 hz2 sb => ?_
    obtain ⟨x', e1, r1⟩ := p1 i u1 hu1
    rw [hxi] at e1; cases e1
    obtain ⟨y', e2, r2⟩ := p2 i u2 hu2
    rw [hyi] at e2; cases e2
    have hT2 := (sb.2 s.heap.objs.size (Nat.ne_of_gt szz)).trans hT
    have okT : ObjOk X.prog X.w (upd H s.heap.objs.size (.tup [x, y])) h2 s.heap.objs.size (.tup [x, y]) :=
      ⟨(by decide : 2 ≤ sizeLine), [u1, u2], .cons r1 (.cons r2 .nil), _, hT2, rfl, _, rfl⟩
    have J : Inv X pins σ (upd H s.heap.objs.size (.tup [x, y])) { s with heap := h2, toks := tk } := by
      refine I.turnedNew (ch := [z, TI, TO, i1, i2]) (fun b o hb q => ?_) hf (Nat.le_refl _) okT
      simp only [List.mem_cons, List.not_mem_nil, or_false, not_or] at hb
      exact (sb.2 b hb.1).trans (hkp b o hb.1 hb.2.2.1 hb.2.2.2.1 hb.2.2.2.2 q)
    refine ⟨.ref s.heap.objs.size, _, J, rfl, ⟨_, x, y, rfl, I.hok.fresh (Nat.le_refl _), rfl, fun zs hq => by rw [hq.inj hx]; exact hxi, fun zs hq => by rw [hq.inj hy]; exact hyi⟩, ⟨hz2, ?_, ⟨u1, u2, ?_⟩, ?_, ?_⟩, fun b hb => ?_⟩
    · exact (sb.2 TI D.a).trans (hkp TI _ D.a D.c D.d D.e hTI)
    · exact (sb.2 TO D.b).trans hTO1
    · exact (sk1 _ _ s1').keep fun o q => (sb.2 i1 (Ne.symm D.f)).trans q
    · exact (sk2 _ _ s2').keep fun o q => (sb.2 i2 (Ne.symm D.g)).trans q
    · have lt : b < s.heap.objs.size := by
        simp only [List.mem_cons, List.not_mem_nil, or_false] at hb
        rcases hb with rfl | rfl | rfl | rfl | rfl
        · exact szz
        · exact Heap.lt_size hTI
        · exact Heap.lt_size hTO
        · obtain ⟨o, q, _⟩ := hi1.obj; exact Heap.lt_size q
        · obtain ⟨o, q, _⟩ := hi2.obj; exact Heap.lt_size q
      rw [upd_ne (Nat.ne_of_lt lt)]
      exact (hf b hb).1
  done := by
    intro X hP hw hK hc i pins s σ H E I hf st hg
    subst hP hw hK
    obtain ⟨hz, hTI, ⟨a1, a2, hTO⟩, hi1, hi2⟩ := st
    obtain ⟨xs, ys, hx, hy, hmin⟩ := hg
    have n1 := (hf i1 (by simp)).1
    have n2 := (hf i2 (by simp)).1
    obtain ⟨fp1, P1, S1, d1, s1, p1, sk1, m1, g1⟩ := sk_draws I hc hx hi1 n1
    obtain ⟨fp2, P2, S2, d2, s2, p2, sk2, m2, g2⟩ := sk_draws I hc hy hi2 n2
    have sep := D.sep m1 m2 g1 g2 (hf z (by simp)).1 (hf TO (by simp)).1 n1 n2
    refine wpAny_pyNext_zipD2_end sep d1 d2 hz hTI hTO s1 s2 (by omega) (by omega) (by omega) fun h1 tk hkp => ⟨rfl, ?_⟩
    refine I.turnedL (ch := [z, TI, TO, i1, i2]) (fun b o hb q => ?_) hf
    simp only [List.mem_cons, List.not_mem_nil, or_false, not_or] at hb
    exact hkp b o hb.1 hb.2.2.1 hb.2.2.2.1 hb.2.2.2.2 q
  self := fun A i s Q E st h => wpAny_pyIter_zip st.1 h
end
end RE
/-! RE7b: what a for or a comprehension walks, by trees. -/
namespace RE
open PySem PySem.Spec PyProof.Rows L2

/-- enumerate(v) of one argument, v by how its iterator begins -/
theorem meets_enum1 {v : Value} {o : Obj} {G : Heap → Prop} (B : Begins v o G) :
    Meets (Builtin.«enumerate.__new__» ⟨[.type "enumerate", v], []⟩) fun _ R s => G s.heap ∧
      R (.ok (.ret (.ref (s.heap.push o).objs.size))) { s with heap := (s.heap.push o).push { cls := .type "enumerate", data := .fields #[.none, .bool false, .ref s.heap.objs.size, rawInt 0, .none, .none] } } :=
  .of_wp fun prog w A R s h => by
    obtain ⟨hp, gens, dr, tk, os⟩ := s
    obtain ⟨g, r⟩ := h
    have hsub := sub_enumerate
    have it0 : ∀ {A' : Around} {E' : Value → Shared → Prop} {Q' : Value → Shared → Prop}, Q' (.ref hp.objs.size) ⟨hp.push o, gens, dr, tk, os⟩ → wpAny (model prog w) A' (pyIter v) Q' E' ⟨hp, gens, dr, tk, os⟩ := fun q => B.iter prog w _ _ ⟨hp, gens, dr, tk, os⟩ _ g q
    wp_walk using it0
    refine wpAny_stack_any fun st => ?_
    refine wpAny_pure ?_
    split
    · next c _ _ _ _ _ =>
      cases (c == Value.type "enumerate") <;>
        (wp_walk using it0
         exact ⟨_, rfl, r⟩)
    · wp_walk using it0
      exact ⟨_, rfl, r⟩
theorem call_enum1 {prog : Program} {w : World} {A : Around} {E : Value → Shared → Prop} {s : Shared} {v : Value} {o : Obj} {G : Heap → Prop} {Q : Value → Shared → Prop} (B : Begins v o G) (g : G s.heap)
    (h : ∀ h', IsEnum h' (s.heap.objs.size + 1) s.heap.objs.size 0 .none → h'.get? s.heap.objs.size = some o → (∀ b ob, s.heap.get? b = some ob → h'.get? b = some ob) → Q (.ref (s.heap.objs.size + 1)) { s with heap := h' }) :
    wpAny (model prog w) A (call (.type "enumerate") [v]) Q E s := by
  refine callType_new F.called_enumerate (by decide) (F.typeCall_enumerate_1 _) (F.newCall_enumerate_1 _) (fun ob => F.args_object_init_2 ob _) F.entry_enumerate_new (meets_enum1 B) ⟨g, ?_⟩
  have sz : (s.heap.push o).objs.size = s.heap.objs.size + 1 := Heap.size_push ..
  have e1 : IsEnum ((s.heap.push o).push { cls := .type "enumerate", data := .fields #[.none, .bool false, .ref s.heap.objs.size, rawInt 0, .none, .none] }) (s.heap.objs.size + 1) s.heap.objs.size 0 .none := by
    have q := Heap.get?_push_size (s.heap.push o) (o := { cls := .type "enumerate", data := .fields #[.none, .bool false, .ref s.heap.objs.size, rawInt 0, .none, .none] }) rfl
    rw [sz] at q
    exact q
  show _ ∧ _
  rw [sz]
  exact ⟨⟨_, e1, rfl⟩, h _ e1 (Heap.get?_push_of_some _ (Heap.get?_push_size _ B.free)) fun b ob q => Heap.get?_push_of_some _ (Heap.get?_push_of_some _ q)⟩

/-- the value of a walked thing -/
def skV : Sk → V
  | .l a => .ref a
  | .t a => .ref a
  | .s z => .str z
theorem sk_begins {X : Cx} {pins : List (Addr × Obj)} {σ : L2.St} {H : Hp} {s : Shared} {k : Sk} {xs : List V} {u : Value} (I : Inv X pins σ H s) (hk : SkAt H k xs) (r : RelV (skV k) u) :
    ∃ (o : Obj) (G : Heap → Prop), Begins u o G ∧ G s.heap ∧ ∀ it h, h.get? it = some o → SkIt it k 0 h := by
  cases k with
  | l a =>
    cases (show u = Value.ref a from r)
    obtain ⟨its, rv, p, _⟩ := I.list (show SqL X.K H a xs from .inl hk)
    exact ⟨_, _, begins_list a its.toArray, p.isList, fun it h e => ⟨_, e, rfl, rfl⟩⟩
  | t a =>
    cases (show u = Value.ref a from r)
    obtain ⟨its, rv, p, _⟩ := I.tuple (SqT.of hk)
    exact ⟨_, _, begins_tuple a its.toArray, p, fun it h e => ⟨_, e, rfl, rfl⟩⟩
  | s z =>
    obtain ⟨t, rfl⟩ := (show ∃ t, u = Value.str z t from r)
    exact ⟨_, _, begins_text z t, trivial, fun it h e => ⟨t, _, e, rfl, rfl⟩⟩
section
variable {X : Cx}
def iEnG (ta : TA) : TI := fun σ H R => ta σ H fun vs H1 => ∃ k xs, vs = [skV k] ∧ SkAt H1 k xs ∧ R (Iteg k) H1
theorem boot_enum' : bootBuiltins "enumerate" = some (.type "enumerate") := by decide +kernel
theorem pi_enumG {e : Expr} {ta : TA} {p pos tpos : Pos} {elts : List Expr} {kk : Nat} (hg : Gl X "enumerate") (hm : X.mg "enumerate" = none) (ha : PA X [e] ta) (hs : starEach [e] X.env = [(false, eval e X.env)]) :
    PI X (.Tuple elts kk tpos) (.Call (.Name "enumerate" p) [e] [] pos) (iEnG ta) := by
  refine ⟨fun pins s σ H R I h => ?_⟩
  refine Call_ (ld_blt I hg hm boot_enum' (PyProof.Rows.callWith_type1 (thn (ha.run pos pins s σ H _ I h) fun us s1 ⟨vs, H1, I1, r1, k, xs, ev, hk, q⟩ => ?_) hs rfl))
  subst ev
  obtain ⟨u, rfl, ru⟩ := vals1 r1
  obtain ⟨o, G, B, g, fin⟩ := sk_begins I1 hk ru
  refine call_enum1 B g fun h' he hi hkp => wpAny_pyIter_enum he ?_
  have J : Inv X pins σ H1 { s1 with heap := h' } := I1.kept (t' := s1.toks) hkp
  refine ⟨s1.heap.objs.size + 1, [s1.heap.objs.size + 1, s1.heap.objs.size], _, _, H1, rfl, J, turn_enumG k (s1.heap.objs.size + 1) s1.heap.objs.size, ⟨⟨.none, he⟩, fin _ _ hi, Nat.succ_ne_self _⟩, fun b hb => ?_, q⟩
  have le : s1.heap.objs.size ≤ b := by
    simp only [List.mem_cons, List.not_mem_nil, or_false] at hb
    rcases hb with rfl | rfl
    · exact Nat.le_succ _
    · exact Nat.le_refl _
  exact I1.fpOk le (I1.hok.fresh le)
def iZpG (ta : TA) : TI := fun σ H R => ta σ H fun vs H1 => ∃ k1 k2 xs ys, vs = [skV k1, skV k2] ∧ SkAt H1 k1 xs ∧ SkAt H1 k2 ys ∧ R (Itzg k1 k2) H1
theorem ap5 (N : Addr) : Ap5 (N + 4) (N + 2) (N + 3) N (N + 1) := by
  have h : ∀ {i j : Nat}, i ≠ j → (N : Nat) + i ≠ N + j := fun q e => q (Nat.add_left_cancel e)
  exact ⟨h (by decide), h (by decide), h (by decide), h (i := 2) (j := 0) (by decide), h (by decide), h (i := 4) (j := 0) (by decide), h (by decide), h (i := 3) (j := 0) (by decide), h (by decide), h (i := 0) (j := 1) (by decide)⟩
theorem pi_zipG {e e2 : Expr} {ta : TA} {p pos tpos : Pos} {elts : List Expr} {kk : Nat} (hg : Gl X "zip") (hm : X.mg "zip" = none) (ha : PA X [e, e2] ta) (hs : starEach [e, e2] X.env = (false, eval e X.env) :: starEach [e2] X.env) (hpl : (backTo pos (starEach [e2] X.env)).any (·.1) = false) :
    PI X (.Tuple elts kk tpos) (.Call (.Name "zip" p) [e, e2] [] pos) (iZpG ta) := by
  refine ⟨fun pins s σ H R I h => ?_⟩
  refine Call_ (ld_blt I hg hm PyProof.Rows.boot_zip (PyProof.Rows.callWith_type1 (thn (ha.run pos pins s σ H _ I h) fun us s1 ⟨vs, H1, I1, r1, k1, k2, xs, ys, ev, hk1, hk2, q⟩ => ?_) hs hpl))
  subst ev
  obtain ⟨u1, u2, rfl, r2, r3⟩ := vals2 r1
  obtain ⟨o1, G1, B1, g1, fin1⟩ := sk_begins I1 hk1 r2
  obtain ⟨o2, G2, B2, g2, fin2⟩ := sk_begins I1 hk2 r3
  refine zip_begins2 B1 B2 g1 g2 fun h' hz hTI hTO q1 q2 hsz hkp => wpAny_pyIter_zip hz ?_
  have J : Inv X pins σ H1 { s1 with heap := h' } := I1.kept (t' := s1.toks) hkp
  refine ⟨s1.heap.objs.size + 4, [s1.heap.objs.size + 4, s1.heap.objs.size + 2, s1.heap.objs.size + 3, s1.heap.objs.size, s1.heap.objs.size + 1], _, _, H1, rfl, J, turn_zipG k1 k2 (ap5 s1.heap.objs.size), ⟨hz, hTI, ⟨_, _, hTO⟩, fin1 _ _ q1, fin2 _ _ q2⟩, fun b hb => ?_, q⟩
  have le : s1.heap.objs.size ≤ b := by
    simp only [List.mem_cons, List.not_mem_nil, or_false] at hb
    rcases hb with rfl | rfl | rfl | rfl | rfl <;> first | exact Nat.le_add_right _ _ | exact Nat.le_refl _
  exact I1.fpOk le (I1.hok.fresh le)
end

/-! ### walks by trees -/
/-- what stood at H1 at the places that matter stands at H2: the allowed ones, those that never change, those at src -/
def Kept (P : Addr → Prop) (src : List Addr) (H1 H2 : Hp) : Prop := ∀ b o, H1 b = some o → (P b ∨ ¬ Chg (some o) ∨ b ∈ src) → H2 b = some o
theorem Kept.refl {P : Addr → Prop} {src : List Addr} {H : Hp} : Kept P src H H := fun _ _ e _ => e
theorem Kept.of {P : Addr → Prop} {src : List Addr} {H H' : Hp} (s : Same H H') : Kept P src H H' := fun b o e _ => s b o e
theorem HD.kept {t : Bool} {P : Addr → Prop} {src : List Addr} {H1 H2 : Hp} {a : Addr} {ps : List (D × V)} (k : Kept P src H1 H2) (h : HD t H1 a ps) (pa : P a) : HD t H2 a ps := by
  cases t <;> obtain ⟨ks, (r | ⟨o, r⟩), e⟩ := h
  · exact ⟨ks, .inl (k _ _ r (.inl pa)), e⟩
  · exact ⟨ks, .inr ⟨o, k _ _ r (.inl pa)⟩, e⟩
  · exact ⟨ks, .inl (k _ _ r (.inl pa)), e⟩
  · exact ⟨ks, .inr ⟨o, k _ _ r (.inl pa)⟩, e⟩
mutual
theorem Rep.kept {P : Addr → Prop} {src : List Addr} {H1 H2 : Hp} (k : Kept P src H1 H2) : ∀ (d : D) (v : V), Rep P H1 d v → Rep P H2 d v
  | .non, v, h => by simpa only [Rep] using h
  | .bl b, v, h => by simpa only [Rep] using h
  | .int i, v, h => by simpa only [Rep] using h
  | .str x, v, h => by simpa only [Rep] using h
  | .tup ds, v, h => by
    simp only [Rep] at h ⊢
    obtain ⟨a, vs, e, h1, h2⟩ := h
    exact ⟨a, vs, e, k _ _ h1 (.inr (.inl fun z => z)), RepL.kept k ds vs h2⟩
  | .lst ds, v, h => by
    simp only [Rep] at h ⊢
    obtain ⟨a, vs, e, h0, h1, h2⟩ := h
    exact ⟨a, vs, e, h0, k _ _ h1 (.inl h0), RepL.kept k ds vs h2⟩
  | .dic t kvs, v, h => by
    simp only [Rep] at h ⊢
    obtain ⟨a, ps, e, h0, h1, h2⟩ := h
    exact ⟨a, ps, e, h0, h1.kept k h0, RepKV.kept k kvs ps h2⟩
  | .scr ns, v, h => by
    simp only [Rep] at h ⊢
    obtain ⟨a, o, e, h1⟩ := h
    exact ⟨a, o, e, k _ _ h1 (.inr (.inl fun z => z))⟩
  | .fn f, v, h => by simp only [Rep] at h
theorem RepL.kept {P : Addr → Prop} {src : List Addr} {H1 H2 : Hp} (k : Kept P src H1 H2) : ∀ (ds : List D) (vs : List V), RepL P H1 ds vs → RepL P H2 ds vs
  | [], vs, h => by simpa only [RepL] using h
  | d :: ds, vs, h => by
    simp only [RepL] at h ⊢
    obtain ⟨v, r, e, h1, h2⟩ := h
    exact ⟨v, r, e, Rep.kept k d v h1, RepL.kept k ds r h2⟩
theorem RepKV.kept {P : Addr → Prop} {src : List Addr} {H1 H2 : Hp} (k : Kept P src H1 H2) : ∀ (kvs : List (D × D)) (ps : List (D × V)), RepKV P H1 kvs ps → RepKV P H2 kvs ps
  | [], ps, h => by simpa only [RepKV] using h
  | (q, d) :: kvs, ps, h => by
    simp only [RepKV] at h ⊢
    obtain ⟨v, r, e, h1, h2⟩ := h
    exact ⟨v, r, e, Rep.kept k d v h1, RepKV.kept k kvs r h2⟩
end
/-- J walks the trees ds, from H1 on, wherever the places that matter are kept -/
structure WalkD (P : Addr → Prop) (src : List Addr) (J : It) (ds : List D) (H1 : Hp) : Prop where
  there : ∀ a ∈ src, H1 a ≠ none
  goes : ∀ H2 i, Kept P src H1 H2 → i < ds.length → J.go i H2
  stops : ∀ H2, Kept P src H1 H2 → J.stop ds.length H2
  yields : ∀ H2 i x H3, Kept P src H1 H2 → i < ds.length → J.yld i H2 x H3 → Same H2 H3 ∧ ∃ d, ds[i]? = some d ∧ Rep P H3 d x
/-- lists and dicts -/
def isMut : D → Bool
  | .lst _ => true
  | .dic _ _ => true
  | _ => false
theorem RepB.mut {mg : Str → Option Value} {P : Addr → Prop} {H : Hp} {d : D} {a : Addr} (h : RepB mg P H d (.ref a)) (hf : ∀ g, d ≠ .fn g) (c : Chg (H a)) : isMut d = true := by
  cases d <;> simp only [RepB, Rep] at h <;> first | rfl | skip
  · cases h
  · cases h
  · cases h
  · cases h
  · obtain ⟨b, vs, e, h1, _⟩ := h; cases e; rw [h1] at c; exact c.elim
  · obtain ⟨b, o, e, h1⟩ := h; cases e; rw [h1] at c; exact c.elim
  · exact absurd rfl (hf _)
/-- a place where a list or dict that is looked at stands: allowed, or the slot of one that is not changed now -/
def Top (ks : Ks) (σ : L2.St) (ρ : RE.Env) (P : Addr → Prop) (a : Addr) : Prop := P a ∨ ∃ i d, (kd ks i = .L ∨ kd ks i = .B) ∧ σ[i]? = some (some (.ref a)) ∧ ρ[i]? = some (some d) ∧ isMut d = true
/-- e gives f, to be looked at, at a place that is not changed meanwhile -/
structure EvQ (X : Cx) (ks : Ks) (F : Fn) (e : Expr) (f : SE) : Prop where
  ex : ∃ t : TE, PE X e t ∧ ∀ σ H (P : Addr → Prop) (ρ : RE.Env) (Q : VK) (d : D), Fre P H → ER X.mg P ks H σ ρ → f F ρ = some d →
    (∀ v H', Same H H' → (RepB X.mg P H' d v ∧ ∀ a, v = .ref a → (∀ g, d ≠ .fn g) → Chg (H' a) → Top ks σ ρ P a) → Q v H') → t σ H Q
theorem EvQ.toP {X : Cx} {ks : Ks} {F : Fn} {e : Expr} {f : SE} (h : EvQ X ks F e f) : EvP X ks F e f :=
  let ⟨t, p, q⟩ := h.ex
  ⟨t, p, fun σ H P ρ Q d fr er ev k => q σ H P ρ Q d fr er ev fun v H' s r => k v H' s r.1⟩
theorem Rep.top {P : Addr → Prop} {H : Hp} {d : D} {a : Addr} (h : Rep P H d (.ref a)) (c : Chg (H a)) : P a := by
  cases d <;> simp only [Rep] at h
  · cases h
  · cases h
  · cases h
  · cases h
  · obtain ⟨b, vs, e, h1, _⟩ := h; cases e; rw [h1] at c; exact c.elim
  · obtain ⟨b, vs, e, h0, _⟩ := h; cases e; exact h0
  · obtain ⟨b, vs, e, h0, _⟩ := h; cases e; exact h0
  · obtain ⟨b, o, e, h1⟩ := h; cases e; rw [h1] at c; exact c.elim
theorem EvE.toQ {X : Cx} {ks : Ks} {F : Fn} {e : Expr} {f : SE} (h : EvE X ks F e f) : EvQ X ks F e f :=
  let ⟨t, p, q⟩ := h.ex
  ⟨t, p, fun σ H P ρ Q d fr er ev k => q σ H P ρ Q d fr er ev fun v H' s r => k v H' s ⟨r.toB, fun a e _ c => .inl (by subst e; exact Rep.top r c)⟩⟩
theorem evQ_var {X : Cx} {ks : Ks} {F : Fn} {pos : Pos} {i : Nat} {x : Str} (hN : X.N[i]? = some x) (hv : Vis X.env.scope x) (hk : kd ks i = .L ∨ kd ks i = .B) (hd : (x == ("__debug__" : Str)) = false) (hcd : (x == ("__classdict__" : Str)) = false) : EvQ X ks F (.Name x pos) (cV i) := by
  refine ⟨tVar i, pe_var hN hv hd hcd, fun σ H P ρ Q d fr er ev k => ?_⟩
  obtain ⟨v, e, r⟩ := er.2 i d (cV_some ev)
  exact ⟨v, e, k v H (Same.refl H) ⟨r.toB, fun a ea hf c => .inr ⟨i, d, hk, by rw [e, ea], cV_some ev, by subst ea; exact r.toB.mut hf c⟩⟩⟩
abbrev SL := Fn → RE.Env → Option (List D)
/-- iter gives the trees of f, one after another, to the target tg -/
structure EvI (X : Cx) (ks : Ks) (F : Fn) (tg iter : Expr) (f : SL) : Prop where
  ex : ∃ wi : TI, PI X tg iter wi ∧ ∀ σ H (P : Addr → Prop) (ρ : RE.Env) (R : It → Hp → Prop) (ds : List D), Fre P H → ER X.mg P ks H σ ρ → f F ρ = some ds →
    (∀ J H1 src, Same H H1 → (∀ P', (∀ a, H1 a ≠ none → P a → P' a) → WalkD P' src J ds H1) → (∀ a ∈ src, Top ks σ ρ P a) → R J H1) → wi σ H R

/-- the trees one walks over -/
def chD (s : Str) : List D := s.cps.toList.map fun c => .str ⟨#[c]⟩
def walkL : D → Option (List D)
  | .lst xs => some xs
  | .tup xs => some xs
  | .str s => some (chD s)
  | .scr ns => some (ns.map .int)
  | _ => none
theorem RepL.chars {P : Addr → Prop} {H : Hp} : ∀ cs : List Nat, RepL P H (cs.map fun c => .str ⟨#[c]⟩) (cs.map fun c => V.str ⟨#[c]⟩)
  | [] => by simp only [List.map_nil, RepL]
  | c :: cs => by
    simp only [List.map_cons, RepL]
    exact ⟨_, _, rfl, by simp only [Rep], RepL.chars cs⟩
theorem RepL.ofInts {P : Addr → Prop} {H : Hp} : ∀ ns : List Int, RepL P H (ns.map .int) (ns.map V.int)
  | [] => by simp only [List.map_nil, RepL]
  | c :: cs => by
    simp only [List.map_cons, RepL]
    exact ⟨_, _, rfl, by simp only [Rep], RepL.ofInts cs⟩
/-- a list, tuple or text as a walked thing -/
theorem sk_of {mg : Str → Option Value} {ks : Ks} {σ : L2.St} {ρ : RE.Env} {P : Addr → Prop} {H : Hp} {d : D} {v : V} {ds : List D} (r : RepB mg P H d v) (tp : ∀ a, v = .ref a → (∀ g, d ≠ .fn g) → Chg (H a) → Top ks σ ρ P a) (e : walkL d = some ds) :
    ∃ k vs src, v = skV k ∧ SkAt H k vs ∧ RepL P H ds vs ∧ (∀ a ∈ src, H a ≠ none) ∧ (∀ a ∈ src, Top ks σ ρ P a) ∧ ∀ P2 H2, Kept P2 src H H2 → SkAt H2 k vs := by
  cases d <;> simp only [walkL] at e <;> cases e
  · rename_i z
    simp only [RepB] at r
    exact ⟨.s z, _, [], r, rfl, RepL.chars _, by simp, by simp, fun _ _ _ => rfl⟩
  · obtain ⟨a, vs, rfl, h1, h2⟩ := r.tup
    exact ⟨.t a, vs, [], rfl, h1, h2, by simp, by simp, fun _ H2 k => k _ _ h1 (.inr (.inl fun z => z))⟩
  · obtain ⟨a, vs, rfl, h1, h2⟩ := r.lst
    refine ⟨.l a, vs, [a], rfl, .inl h1, h2, ?_, ?_, fun _ H2 k => .inl (k _ _ h1 (.inr (.inr (by simp))))⟩
    · intro b hb; rw [List.mem_singleton.mp hb, h1]; simp
    · intro b hb; rw [List.mem_singleton.mp hb]; exact tp a rfl (fun g q => nomatch q) (by rw [h1]; trivial)
  · simp only [RepB, Rep] at r
    obtain ⟨a, o, rfl, h1⟩ := r
    exact ⟨.l a, _, [], rfl, .inr ⟨o, h1⟩, RepL.ofInts _, by simp, by simp, fun _ H2 k => .inr ⟨o, k _ _ h1 (.inr (.inl fun z => z))⟩⟩
theorem rep_at {P : Addr → Prop} {H : Hp} {ds : List D} {vs : List V} {i : Nat} {x : V} (h : RepL P H ds vs) (e : vs[i]? = some x) : ∃ d, ds[i]? = some d ∧ Rep P H d x := by
  have hi : i < ds.length := by rw [← h.len]; exact (List.getElem?_eq_some_iff.mp e).1
  obtain ⟨v, e1, r⟩ := h.get (List.getElem?_eq_getElem hi)
  rw [e] at e1; cases e1
  exact ⟨_, List.getElem?_eq_getElem hi, r⟩
section
variable {X : Cx} {ks : Ks} {F : Fn} {pos : Pos} {tg : Expr}
theorem pi_or2 {iter : Expr} {a b : TI} (h : PI X tg iter a) (g : PI X tg iter b) : PI X tg iter (fun σ H R => a σ H R ∨ b σ H R) :=
  ⟨fun pins s σ H R I q => q.elim (h.run pins s σ H R I) (g.run pins s σ H R I)⟩
def cWalk (f : SE) : SL := fun F ρ => (f F ρ).bind walkL
theorem evI_of {e : Expr} {f : SE} (h : EvQ X ks F e f) : EvI X ks F tg e (cWalk f) := by
  obtain ⟨t, p, q⟩ := h.ex
  refine ⟨_, pi_or2 (pi_list p) (pi_or2 (pi_tup p) (pi_str p)), fun σ H P ρ R ds fr er ev k => ?_⟩
  obtain ⟨d, e1, ev1⟩ := Option.bind_eq_some_iff.mp ev
  cases d with
  | lst xs =>
    refine .inl (q σ H P ρ _ _ fr er e1 fun v H1 s1 ⟨r, tp⟩ => ?_)
    simp only [walkL] at ev1; cases ev1
    obtain ⟨a, vs, rfl, h1, h2⟩ := r.lst
    refine ⟨a, rfl, ⟨vs, SqL.of h1⟩, k _ H1 [a] s1 (fun P2 hp2 => ⟨by intro b hb; rw [List.mem_singleton.mp hb, h1]; simp, fun H2 i kp hi => ?_, fun H2 kp => ?_, fun H2 i x H3 kp hi y => ?_⟩) fun b hb => ?_⟩
    · have h3 := kp _ _ h1 (.inr (.inr (by simp)))
      have : i < vs.length := by rw [h2.len]; exact hi
      exact ⟨vs, vs[i], SqL.of h3, List.getElem?_eq_getElem this⟩
    · exact ⟨vs, SqL.of (kp _ _ h1 (.inr (.inr (by simp)))), by rw [h2.len]; exact Nat.le_refl _⟩
    · obtain ⟨rfl, y2⟩ := y
      exact ⟨Same.refl _, rep_at ((RepL.mono (Same.refl _) hp2 _ _ h2).kept kp) (y2 vs (SqL.of (kp _ _ h1 (.inr (.inr (by simp))))))⟩
    · rw [List.mem_singleton.mp hb]
      exact tp a rfl (fun g z => nomatch z) (by rw [h1]; trivial)
  | scr ns =>
    refine .inl (q σ H P ρ _ _ fr er e1 fun v H1 s1 ⟨r, tp⟩ => ?_)
    simp only [walkL] at ev1; cases ev1
    simp only [RepB, Rep] at r
    obtain ⟨a, o, rfl, h1⟩ := r
    have sq : ∀ {P} H2, Kept P [] H1 H2 → SqL X.K H2 a (ns.map V.int) := fun H2 kp => .inl (.inr ⟨o, kp _ _ h1 (.inr (.inl fun z => z))⟩)
    refine ⟨a, rfl, ⟨_, sq (P := P) H1 Kept.refl⟩, k _ H1 [] s1 (fun P2 hp2 => ⟨by simp, fun H2 i kp hi => ?_, fun H2 kp => ?_, fun H2 i x H3 kp hi y => ?_⟩) (by simp)⟩
    · have : i < (ns.map V.int).length := by simpa using hi
      exact ⟨_, _, sq H2 kp, List.getElem?_eq_getElem this⟩
    · exact ⟨_, sq H2 kp, by simp⟩
    · obtain ⟨rfl, y2⟩ := y
      exact ⟨Same.refl _, rep_at (RepL.ofInts ns) (y2 _ (sq _ kp))⟩
  | tup xs =>
    refine .inr (.inl (q σ H P ρ _ _ fr er e1 fun v H1 s1 ⟨r, tp⟩ => ?_))
    simp only [walkL] at ev1; cases ev1
    obtain ⟨a, vs, rfl, h1, h2⟩ := r.tup
    have sq : ∀ {P} H2, Kept P [] H1 H2 → SqT X.K H2 a vs := fun H2 kp => SqT.of (kp _ _ h1 (.inr (.inl fun z => z)))
    refine ⟨a, rfl, ⟨vs, SqT.of h1⟩, k _ H1 [] s1 (fun P2 hp2 => ⟨by simp, fun H2 i kp hi => ?_, fun H2 kp => ?_, fun H2 i x H3 kp hi y => ?_⟩) (by simp)⟩
    · have : i < vs.length := by rw [h2.len]; exact hi
      exact ⟨vs, vs[i], sq H2 kp, List.getElem?_eq_getElem this⟩
    · exact ⟨vs, sq H2 kp, by rw [h2.len]; exact Nat.le_refl _⟩
    · obtain ⟨rfl, y2⟩ := y
      exact ⟨Same.refl _, rep_at ((RepL.mono (Same.refl _) hp2 _ _ h2).kept kp) (y2 vs (sq _ kp))⟩
  | str z =>
    refine .inr (.inr (q σ H P ρ _ _ fr er e1 fun v H1 s1 ⟨r, tp⟩ => ?_))
    simp only [walkL] at ev1; cases ev1
    simp only [RepB] at r
    have ln : (chD z).length = z.cps.size := by unfold chD; rw [List.length_map, Array.length_toList]
    refine ⟨z, r, k _ H1 [] s1 (fun P2 hp2 => ⟨by simp, fun H2 i kp hi => ?_, fun H2 kp => ?_, fun H2 i x H3 kp hi y => ?_⟩) (by simp)⟩
    · show i < z.cps.size
      omega
    · show z.cps.size ≤ _
      omega
    · obtain ⟨rfl, c, hc, rfl⟩ := y
      refine ⟨Same.refl _, .str ⟨#[c]⟩, ?_, by simp only [Rep]⟩
      unfold chD
      rw [List.getElem?_map, Array.getElem?_toList, hc]; rfl
  | _ => cases ev1
/-! ### range -/
def rngL (lo : Int) (n : Nat) : List D := (List.range n).map fun i => .int (lo + (i : Nat))
def small62 (i : Int) : Bool := decide (-(2 ^ 62) ≤ i) && decide (i < 2 ^ 62)
def rng1D : D → Option (List D)
  | .int j => if small62 j then some (rngL 0 j.toNat) else none
  | _ => none
def rng2D : D → D → Option (List D)
  | .int i, .int j => if small62 i && small62 j then some (rngL i (j - i).toNat) else none
  | _, _ => none
def cRng1 (f : SE) : SL := fun F ρ => (f F ρ).bind rng1D
def cRng2 (f g : SE) : SL := fun F ρ => (f F ρ).bind fun x => (g F ρ).bind fun y => rng2D x y
theorem walk_rng {P : Addr → Prop} {H : Hp} {lo : Int} {n : Nat} : WalkD P [] (Itr lo n) (rngL lo n) H := by
  have ln : (rngL lo n).length = n := by simp [rngL]
  refine ⟨by simp, fun H2 i kp hi => ?_, fun H2 kp => ?_, fun H2 i x H3 kp hi y => ?_⟩
  · show i < n; omega
  · show n ≤ _; omega
  · obtain ⟨rfl, rfl⟩ := y
    refine ⟨Same.refl _, .int (lo + (i : Nat)), ?_, by simp only [Rep]⟩
    have : i < n := by omega
    simp [rngL, this]
theorem small62_of {i : Int} (h : small62 i = true) : -(2 ^ 62) ≤ i ∧ i < 2 ^ 62 := by
  unfold small62 at h
  rwa [Bool.and_eq_true, decide_eq_true_eq, decide_eq_true_eq] at h
theorem evI_range1 {a : Expr} {p : Pos} {f : SE} (hg : Gl X "range") (hm : X.mg "range" = none) (hs : noStar a = true) (ha : EvP X ks F a f) : EvI X ks F tg (.Call (.Name "range" p) [a] [] pos) (cRng1 f) := by
  obtain ⟨t, pt, q⟩ := ha.ex
  refine ⟨_, pi_range1 hg hm (pa_cons pt pa_nil (starEach_cons (noStar_ne hs))) (starEach_cons (noStar_ne hs)), fun σ H P ρ R ds fr er ev k => ?_⟩
  obtain ⟨x, e1, ev1⟩ := Option.bind_eq_some_iff.mp ev
  unfold rng1D at ev1
  split at ev1
  · split at ev1
    · rename_i c
      cases ev1
      refine q σ H P ρ _ _ fr er e1 fun v H1 s1 r1 => ?_
      simp only [RepB] at r1
      subst r1
      exact ⟨_, rfl, (small62_of c).1, (small62_of c).2, k _ H1 [] s1 (fun _ _ => walk_rng) (by simp)⟩
    · cases ev1
  · cases ev1
theorem evI_range2 {a b : Expr} {p : Pos} {f g : SE} (hg : Gl X "range") (hm : X.mg "range" = none) (hs : noStar a = true) (hs2 : noStar b = true) (ha : EvP X ks F a f) (hb : EvP X ks F b g) : EvI X ks F tg (.Call (.Name "range" p) [a, b] [] pos) (cRng2 f g) := by
  obtain ⟨t, pt, q⟩ := ha.ex
  obtain ⟨t', pt', q'⟩ := hb.ex
  refine ⟨_, pi_range2 hg hm (pa_cons pt (pa_cons pt' pa_nil (starEach_cons (noStar_ne hs2))) (starEach_cons (noStar_ne hs))) (by rw [starEach_cons (noStar_ne hs), starEach_cons (noStar_ne hs2)]; rfl) (starEach_cons (noStar_ne hs2)), fun σ H P ρ R ds fr er ev k => ?_⟩
  obtain ⟨x, e1, ev1⟩ := Option.bind_eq_some_iff.mp ev
  obtain ⟨y, e2, ev2⟩ := Option.bind_eq_some_iff.mp ev1
  unfold rng2D at ev2
  split at ev2
  · split at ev2
    · rename_i c
      cases ev2
      rw [Bool.and_eq_true] at c
      refine q σ H P ρ _ _ fr er e1 fun v H1 s1 r1 => ?_
      refine q' σ H1 P ρ _ _ (fr.same s1) (er.same s1) e2 fun w H2 s2 r2 => ?_
      simp only [RepB] at r1 r2
      subst r1 r2
      exact ⟨_, _, rfl, ⟨(small62_of c.1).1, (small62_of c.1).2, (small62_of c.2).1, (small62_of c.2).2⟩, k _ H2 [] (s1.trans s2) (fun _ _ => walk_rng) (by simp)⟩
    · cases ev2
  · cases ev2

/-! ### enumerate, zip -/
def enumL : Nat → List D → List D
  | _, [] => []
  | i, d :: ds => .tup [.int (i : Nat), d] :: enumL (i + 1) ds
def zipL : List D → List D → List D
  | x :: xs, y :: ys => .tup [x, y] :: zipL xs ys
  | _, _ => []
theorem enumL_len : ∀ (i : Nat) (ds : List D), (enumL i ds).length = ds.length
  | _, [] => rfl
  | i, d :: ds => by simp only [enumL, List.length_cons, enumL_len]
theorem enumL_get : ∀ (k i : Nat) (ds : List D) (d : D), ds[i]? = some d → (enumL k ds)[i]? = some (.tup [.int ((k + i : Nat) : Int), d])
  | _, _, [], _, h => by simp at h
  | k, 0, d0 :: ds, d, h => by simp at h; subst h; rfl
  | k, i + 1, d0 :: ds, d, h => by
    have := enumL_get (k + 1) i ds d (by simpa using h)
    simp only [enumL, List.getElem?_cons_succ]
    rw [this, show k + 1 + i = k + (i + 1) by omega]
theorem zipL_len : ∀ (xs ys : List D), (zipL xs ys).length = min xs.length ys.length
  | [], _ => by simp [zipL]
  | _ :: _, [] => by simp [zipL]
  | x :: xs, y :: ys => by simp only [zipL, List.length_cons, zipL_len xs ys]; omega
theorem zipL_get : ∀ (i : Nat) (xs ys : List D) (x y : D), xs[i]? = some x → ys[i]? = some y → (zipL xs ys)[i]? = some (.tup [x, y])
  | _, [], _, _, _, h, _ => by simp at h
  | _, _ :: _, [], _, _, _, h => by simp at h
  | 0, a :: xs, b :: ys, x, y, h, g => by simp at h g; subst h g; rfl
  | i + 1, a :: xs, b :: ys, x, y, h, g => by
    simp only [zipL, List.getElem?_cons_succ]
    exact zipL_get i xs ys x y (by simpa using h) (by simpa using g)
theorem rep_pair {P : Addr → Prop} {H : Hp} {T : Addr} {d e : D} {x y : V} (n : H T = none) (h : Rep P H d x) (g : Rep P H e y) : Rep P (upd H T (.tup [x, y])) (.tup [d, e]) (.ref T) := by
  simp only [Rep, RepL]
  exact ⟨T, _, rfl, upd_same, x, [y], rfl, h.same (same_new n), y, [], rfl, g.same (same_new n), rfl⟩
def cEnum (f : SE) : SL := fun F ρ => ((f F ρ).bind walkL).map (enumL 0)
def cZip (f g : SE) : SL := fun F ρ => ((f F ρ).bind walkL).bind fun xs => ((g F ρ).bind walkL).map (zipL xs)
theorem evI_enum {elts : List Expr} {kk : Nat} {tpos : Pos} {e : Expr} {f : SE} {p : Pos} (hg : Gl X "enumerate") (hm : X.mg "enumerate" = none) (hs : noStar e = true) (h : EvQ X ks F e f) : EvI X ks F (.Tuple elts kk tpos) (.Call (.Name "enumerate" p) [e] [] pos) (cEnum f) := by
  obtain ⟨t, pt, q⟩ := h.ex
  refine ⟨_, pi_enumG hg hm (pa_cons pt pa_nil (starEach_cons (noStar_ne hs))) (starEach_cons (noStar_ne hs)), fun σ H P ρ R ds fr er ev k => ?_⟩
  obtain ⟨xs, e0, rfl⟩ := Option.map_eq_some_iff.mp ev
  obtain ⟨d, e1, e2⟩ := Option.bind_eq_some_iff.mp e0
  refine q σ H P ρ _ _ fr er e1 fun v H1 s1 ⟨r, tp⟩ => ?_
  obtain ⟨sk, vs, src, rfl, ha, hr, hth, htop, hkp⟩ := sk_of r tp e2
  refine ⟨sk, vs, rfl, ha, k _ H1 src s1 (fun P2 hp2 => ⟨hth, fun H2 i kp hi => ?_, fun H2 kp => ?_, fun H2 i x H3 kp hi y => ?_⟩) htop⟩
  · rw [enumL_len] at hi
    have : i < vs.length := by rw [hr.len]; exact hi
    exact ⟨vs, vs[i], hkp P2 H2 kp, List.getElem?_eq_getElem this⟩
  · exact ⟨vs, hkp P2 H2 kp, by rw [enumL_len, hr.len]⟩
  · obtain ⟨T, x', rfl, nT, rfl, hx⟩ := y
    obtain ⟨d', hd', rd⟩ := rep_at ((RepL.mono (Same.refl _) hp2 _ _ hr).kept kp) (hx vs (hkp P2 H2 kp))
    refine ⟨same_new nT, _, enumL_get 0 i xs d' hd', ?_⟩
    rw [Nat.zero_add]
    exact rep_pair nT (by simp only [Rep]) rd
theorem evI_zip {elts : List Expr} {kk : Nat} {tpos : Pos} {e e2 : Expr} {f g : SE} {p : Pos} (hg : Gl X "zip") (hm : X.mg "zip" = none) (hs : noStar e = true) (hs2 : noStar e2 = true) (h : EvQ X ks F e f) (h' : EvQ X ks F e2 g) : EvI X ks F (.Tuple elts kk tpos) (.Call (.Name "zip" p) [e, e2] [] pos) (cZip f g) := by
  obtain ⟨t, pt, q⟩ := h.ex
  obtain ⟨t', pt', q'⟩ := h'.ex
  refine ⟨_, pi_zipG hg hm (pa_cons pt (pa_cons pt' pa_nil (starEach_cons (noStar_ne hs2))) (starEach_cons (noStar_ne hs))) (starEach_cons (noStar_ne hs)) (by rw [starEach_cons (noStar_ne hs2)]; rfl), fun σ H P ρ R ds fr er ev k => ?_⟩
  obtain ⟨xs, e0, ev1⟩ := Option.bind_eq_some_iff.mp ev
  obtain ⟨ys, e3, rfl⟩ := Option.map_eq_some_iff.mp ev1
  obtain ⟨d, e1, e4⟩ := Option.bind_eq_some_iff.mp e0
  obtain ⟨d', e5, e6⟩ := Option.bind_eq_some_iff.mp e3
  refine q σ H P ρ _ _ fr er e1 fun v H1 s1 ⟨r, tp⟩ => ?_
  refine q' σ H1 P ρ _ _ (fr.same s1) (er.same s1) e5 fun w H2 s2 ⟨r', tp'⟩ => ?_
  have tp2 : ∀ a, v = .ref a → (∀ g, d ≠ .fn g) → Chg (H2 a) → Top ks σ ρ P a := fun a ea hn c => by
    refine tp a ea hn ?_
    cases q0 : H1 a with
    | some o => rw [s2 a o q0] at c; exact c
    | none =>
      subst ea
      cases d <;> simp only [walkL] at e4 <;> first | (cases e4; done) | skip
      · simp only [RepB] at r; cases r
      · obtain ⟨b, vs, eb, hb, _⟩ := r.tup; cases eb; rw [q0] at hb; cases hb
      · obtain ⟨b, vs, eb, hb, _⟩ := r.lst; cases eb; rw [q0] at hb; cases hb
      · simp only [RepB, Rep] at r; obtain ⟨b, o, eb, hb⟩ := r; cases eb; rw [q0] at hb; cases hb
  obtain ⟨k1, vs, src, rfl, ha, hr, hth, htop, hkp⟩ := sk_of (r.same s2) tp2 e4
  obtain ⟨k2, ws, src', rfl, ha', hr', hth', htop', hkp'⟩ := sk_of r' tp' e6
  have kl : ∀ {P H3}, Kept P (src ++ src') H2 H3 → Kept P src H2 H3 := fun kp b o eb hb => kp b o eb (hb.imp_right fun z => z.imp_right fun m => List.mem_append_left _ m)
  have kr : ∀ {P H3}, Kept P (src ++ src') H2 H3 → Kept P src' H2 H3 := fun kp b o eb hb => kp b o eb (hb.imp_right fun z => z.imp_right fun m => List.mem_append_right _ m)
  refine ⟨k1, k2, vs, ws, rfl, ha, ha', k _ H2 (src ++ src') (s1.trans s2) (fun P2 hp2 => ⟨fun a m => (List.mem_append.mp m).elim (hth a) (hth' a), fun H3 i kp hi => ?_, fun H3 kp => ?_, fun H3 i x H4 kp hi y => ?_⟩) fun a m => (List.mem_append.mp m).elim (htop a) (htop' a)⟩
  · rw [zipL_len] at hi
    have h1 : i < vs.length := by rw [hr.len]; omega
    have h2 : i < ws.length := by rw [hr'.len]; omega
    exact ⟨vs, ws, vs[i], ws[i], hkp P2 H3 (kl kp), hkp' P2 H3 (kr kp), List.getElem?_eq_getElem h1, List.getElem?_eq_getElem h2⟩
  · exact ⟨vs, ws, hkp P2 H3 (kl kp), hkp' P2 H3 (kr kp), by rw [zipL_len, hr.len, hr'.len]⟩
  · obtain ⟨T, x', y', rfl, nT, rfl, hx, hy⟩ := y
    obtain ⟨a, e7, ra⟩ := rep_at ((RepL.mono (Same.refl _) hp2 _ _ hr).kept (kl kp)) (hx vs (hkp P2 H3 (kl kp)))
    obtain ⟨b, e8, rb⟩ := rep_at ((RepL.mono (Same.refl _) hp2 _ _ hr').kept (kr kp)) (hy ws (hkp' P2 H3 (kr kp)))
    exact ⟨same_new nT, _, zipL_get i xs ys a b e7 e8, rep_pair nT ra rb⟩
end
end RE
/-! RE8: targets, list comprehensions. -/
namespace RE
open PySem PySem.Spec PyProof.Rows L2

/-! ### the canonical readings -/
def tE (mg : Str → Option Value) (ks : Ks) (F : Fn) (f : SE) : TE := fun σ H Q => ∃ (P : Addr → Prop) (ρ : RE.Env) (d : D), Fre P H ∧ ER mg P ks H σ ρ ∧ f F ρ = some d ∧ ∀ v H', Same H H' → Rep P H' d v → Q v H'
theorem EvE.can {X : Cx} {ks : Ks} {F : Fn} {e : Expr} {f : SE} (h : EvE X ks F e f) : PE X e (tE X.mg ks F f) := by
  obtain ⟨t, p, q⟩ := h.ex
  exact ⟨fun pins s σ H Q I ⟨P, ρ, d, fr, er, ev, k⟩ => p.run pins s σ H Q I (q σ H P ρ Q d fr er ev k)⟩
def tT (mg : Str → Option Value) (ks : Ks) (F : Fn) (f : SB) : TT := fun σ H Q => ∃ (P : Addr → Prop) (ρ : RE.Env) (b : Bool), Fre P H ∧ ER mg P ks H σ ρ ∧ f F ρ = some b ∧ ∀ H', Same H H' → Q b H'
theorem EvT.can {X : Cx} {ks : Ks} {F : Fn} {e : Expr} {f : SB} (h : EvT X ks F e f) : PT X e (tT X.mg ks F f) := by
  obtain ⟨t, p, q⟩ := h.ex
  exact ⟨fun pins s σ H Q I ⟨P, ρ, d, fr, er, ev, k⟩ => p.run pins s σ H Q I (q σ H P ρ Q d fr er ev k)⟩

/-! ### targets -/
abbrev SG := D → RE.Env → Option RE.Env
def tG (mg : Str → Option Value) (ks : Ks) (is : List Nat) (asg : SG) : TG := fun v σ H Q => ∃ (P : Addr → Prop) (ρ ρ' : RE.Env) (d : D), Rep P H d v ∧ ER mg P ks H σ ρ ∧ asg d ρ = some ρ' ∧
  ∀ σ', ER mg P ks H σ' ρ' → σ'.length = σ.length → (∀ j, j ∉ is → σ'[j]? = σ[j]?) → Q σ' H
/-- assigning a tree to tg is asg, on the slots is -/
structure EvG (X : Cx) (ks : Ks) (tg : Expr) (is : List Nat) (asg : SG) : Prop where
  can : PG X tg (tG X.mg ks is asg)
abbrev SGs := List D → RE.Env → Option RE.Env
def tGs (mg : Str → Option Value) (ks : Ks) (is : List Nat) (asg : SGs) : TGs := fun vs σ H Q => ∃ (P : Addr → Prop) (ρ ρ' : RE.Env) (ds : List D), RepL P H ds vs ∧ ER mg P ks H σ ρ ∧ asg ds ρ = some ρ' ∧
  ∀ σ', ER mg P ks H σ' ρ' → σ'.length = σ.length → (∀ j, j ∉ is → σ'[j]? = σ[j]?) → Q σ' H
structure EvGs (X : Cx) (ks : Ks) (tgs : List Expr) (is : List Nat) (asg : SGs) : Prop where
  can : PGs X tgs (tGs X.mg ks is asg)
theorem PG.imp {X : Cx} {tg : Expr} {t u : TG} (h : PG X tg t) (g : ∀ v σ H Q, u v σ H Q → t v σ H Q) : PG X tg u := by
  obtain ⟨r⟩ := h
  exact ⟨fun pins s σ H v u Q I rv q => r pins s σ H v u Q I rv (g v σ H Q q)⟩
def gN (i : Nat) : SG := fun d ρ => some (ρ.set i (some d))
theorem ER.set {mg : Str → Option Value} {P : Addr → Prop} {ks : Ks} {H : Hp} {σ : L2.St} {ρ : RE.Env} {i : Nat} {d : D} {v : V} (h : ER mg P ks H σ ρ) (r : RepK mg P H (kd ks i) d v) : ER mg P ks H (σ.set i (some v)) (ρ.set i (some d)) := by
  refine ⟨by rw [List.length_set, List.length_set]; exact h.1, fun j e q => ?_⟩
  by_cases hj : i = j
  · subst hj
    have hi : i < ρ.length := by
      rw [← List.length_set (i := i) (a := some d)]
      exact (List.getElem?_eq_some_iff.mp q).1
    rw [List.getElem?_set_self hi] at q
    cases q
    exact ⟨v, List.getElem?_set_self (by rw [← h.1]; exact hi), r⟩
  · rw [List.getElem?_set_ne hj] at q
    obtain ⟨w, e1, r1⟩ := h.2 j e q
    exact ⟨w, by rw [List.getElem?_set_ne hj]; exact e1, r1⟩
theorem evG_name {X : Cx} {ks : Ks} {pos : Pos} {i : Nat} {x : Str} (hN : X.N.Nodup) (hi : X.N[i]? = some x) (hx : Loc X.env.scope x) (hk : kd ks i = .F) (hf : X.fn x = true ∨ X.env.scope.names.lookup x = some .local) : EvG X ks (.Name x pos) [i] (gN i) := by
  refine ⟨PG.imp (pg_name hN hi hx hf) fun v σ H Q ⟨P, ρ, ρ', d, r, er, e, k⟩ => ?_⟩
  cases e
  exact k _ (er.set (by rw [hk]; exact r)) List.length_set fun j hj => List.getElem?_set_ne (by simpa [eq_comm] using hj)
theorem PGs.imp {X : Cx} {tg : List Expr} {t u : TGs} (h : PGs X tg t) (g : ∀ v σ H Q, u v σ H Q → t v σ H Q) : PGs X tg u := by
  obtain ⟨r⟩ := h
  exact ⟨fun pins s σ H v u Q I rv q => r pins s σ H v u Q I rv (g v σ H Q q)⟩
theorem assignEach_cons {e : Expr} {es : List Expr} {env : PySem.Env} (h : ∀ x p, e ≠ .Starred x p) : assignEach (e :: es) env = (false, assign e env) :: assignEach es env := by
  cases e <;> first | rfl | exact absurd rfl (h _ _)
theorem assignEach_all : ∀ {es : List Expr} {env : PySem.Env}, es.all noStar = true → (assignEach es env).length = es.length ∧ (assignEach es env).findIdx? (·.1) = none
  | [], _, _ => ⟨rfl, rfl⟩
  | e :: es, env, h => by
    rw [List.all_cons, Bool.and_eq_true] at h
    rw [assignEach_cons (noStar_ne h.1)]
    have ih := assignEach_all (es := es) (env := env) h.2
    exact ⟨by rw [List.length_cons, List.length_cons, ih.1], by simp [List.findIdx?_cons, ih.2]⟩
def gsNil : SGs := fun ds ρ => match ds with | [] => some ρ | _ => none
def gsCons (a : SG) (b : SGs) : SGs := fun ds ρ => match ds with | d :: r => (a d ρ).bind (b r) | [] => none
theorem evGs_nil {X : Cx} {ks : Ks} : EvGs X ks [] [] gsNil := by
  refine ⟨PGs.imp pgs_nil fun vs σ H Q ⟨P, ρ, ρ', ds, r, er, e, k⟩ => ?_⟩
  cases ds with
  | cons => cases e
  | nil =>
    cases e
    simp only [RepL] at r
    exact ⟨r, k σ er rfl fun _ _ => rfl⟩
theorem evGs_cons {X : Cx} {ks : Ks} {t : Expr} {ts : List Expr} {is js : List Nat} {a : SG} {b : SGs} (hs : noStar t = true) (h : EvG X ks t is a) (g : EvGs X ks ts js b) : EvGs X ks (t :: ts) (is ++ js) (gsCons a b) := by
  refine ⟨PGs.imp (pgs_cons h.can g.can (by rw [assignEach_cons (noStar_ne hs)]; rfl)) fun vs σ H Q ⟨P, ρ, ρ', ds, r, er, e, k⟩ => ?_⟩
  cases ds with
  | nil => cases e
  | cons d ds =>
    simp only [RepL] at r
    obtain ⟨v, rest, rfl, r1, r2⟩ := r
    obtain ⟨ρ1, e1, e2⟩ := Option.bind_eq_some_iff.mp e
    refine ⟨v, rest, rfl, P, ρ, ρ1, d, r1, er, e1, fun σ' er' hl hj => ?_⟩
    refine ⟨P, ρ1, ρ', ds, r2, er', e2, fun σ2 er2 hl2 hj2 => ?_⟩
    exact k σ2 er2 (hl2.trans hl) fun j hn => by
      rw [List.mem_append, not_or] at hn
      rw [hj2 j hn.2, hj j hn.1]
def gT (b : SGs) : SG := fun d ρ => match d with | .tup ds => b ds ρ | _ => none
/-- how many things a list of targets takes -/
structure Takes (b : SGs) (n : Nat) : Prop where
  len : ∀ ds ρ ρ', b ds ρ = some ρ' → ds.length = n
theorem takes_nil : Takes gsNil 0 := ⟨fun ds ρ ρ' e => by cases ds <;> first | rfl | cases e⟩
theorem takes_cons {a : SG} {b : SGs} {n : Nat} (h : Takes b n) : Takes (gsCons a b) (n + 1) := ⟨fun ds ρ ρ' e => by
  cases ds with
  | nil => cases e
  | cons d ds =>
    obtain ⟨ρ1, e1, e2⟩ := Option.bind_eq_some_iff.mp e
    rw [List.length_cons, h.len ds ρ1 ρ' e2]⟩
theorem evG_tup {X : Cx} {ks : Ks} {ts : List Expr} {is : List Nat} {b : SGs} {k : Nat} {pos : Pos} (hc : X.calm = true) (hs : ts.all noStar = true) (ht : Takes b ts.length) (h : EvGs X ks ts is b) : EvG X ks (.Tuple ts k pos) is (gT b) := by
  refine ⟨PG.imp (pg_tup hc h.can (assignEach_all hs).1 (assignEach_all hs).2) fun v σ H Q ⟨P, ρ, ρ', d, r, er, e, kk⟩ => ?_⟩
  cases d <;> simp only [gT] at e <;> first | (cases e; done) | skip
  simp only [Rep] at r
  obtain ⟨a, vs, rfl, h1, h2⟩ := r
  exact ⟨a, vs, rfl, SqT.of h1, by rw [h2.len]; exact ht.len _ _ _ e, P, ρ, ρ', _, h2, er, e, kk⟩

/-! ### list comprehensions -/
def tTs (mg : Str → Option Value) (ks : Ks) (F : Fn) (f : SB) : TT := tT mg ks F f
structure EvTs (X : Cx) (ks : Ks) (F : Fn) (ifs : List Expr) (f : SB) : Prop where
  can : PTs X ifs (tT X.mg ks F f)
def cTrue : SB := fun _ _ => some true
theorem PTs.imp {X : Cx} {ifs : List Expr} {t u : TT} (h : PTs X ifs t) (g : ∀ σ H Q, u σ H Q → t σ H Q) : PTs X ifs u := by
  obtain ⟨r⟩ := h
  exact ⟨fun pins s σ H Q I q => r pins s σ H Q I (g σ H Q q)⟩
theorem evTs_nil {X : Cx} {ks : Ks} {F : Fn} : EvTs X ks F [] cTrue :=
  ⟨PTs.imp pts_nil fun σ H Q ⟨P, ρ, b, fr, er, e, k⟩ => by cases e; exact k H (Same.refl H)⟩
theorem evTs_one {X : Cx} {ks : Ks} {F : Fn} {c : Expr} {f : SB} (h : EvT X ks F c f) : EvTs X ks F [c] f := ⟨pts_one h.can⟩
/-- the slots of own names unset -/
def wipeE (ρ : RE.Env) : List Nat → RE.Env
  | [] => ρ
  | v :: vs => (wipeE ρ vs).set v none
theorem wipeE_len (ρ : RE.Env) : ∀ vs : List Nat, (wipeE ρ vs).length = ρ.length
  | [] => rfl
  | v :: vs => by unfold wipeE; rw [List.length_set, wipeE_len ρ vs]
theorem wipeE_some {ρ : RE.Env} {i : Nat} {d : D} : ∀ {vs : List Nat}, (wipeE ρ vs)[i]? = some (some d) → ρ[i]? = some (some d) ∧ i ∉ vs
  | [], h => ⟨h, by simp⟩
  | v :: vs, h => by
    unfold wipeE at h
    by_cases hi : v = i
    · subst hi
      by_cases hv : v < (wipeE ρ vs).length
      · rw [List.getElem?_set_self hv] at h; cases h
      · rw [List.getElem?_eq_none (by simpa using hv)] at h; cases h
    · rw [List.getElem?_set_ne hi] at h
      obtain ⟨h1, h2⟩ := wipeE_some h
      refine ⟨h1, ?_⟩
      rw [List.mem_cons, not_or]
      exact ⟨fun e => hi e.symm, h2⟩
theorem ER.wipe {mg : Str → Option Value} {P : Addr → Prop} {ks ks' : Ks} {H : Hp} {σ : L2.St} {ρ : RE.Env} {vs : List Nat} (h : ER mg P ks H σ ρ) (hk : ∀ i, i ∉ vs → kd ks' i = kd ks i) : ER mg P ks' H (L2.wipe σ vs) (wipeE ρ vs) := by
  refine ⟨by rw [wipeE_len, wipe_length]; exact h.1, fun i d e => ?_⟩
  obtain ⟨e1, ni⟩ := wipeE_some e
  obtain ⟨v, e2, r⟩ := h.2 i d e1
  exact ⟨v, by rw [wipe_out ni]; exact e2, by rw [hk i ni]; exact r⟩
theorem wipe_eq {σ σ' : L2.St} {is vs : List Nat} (hl : σ'.length = (L2.wipe σ vs).length) (hj : ∀ j, j ∉ is → σ'[j]? = (L2.wipe σ vs)[j]?) (his : ∀ j ∈ is, j ∈ vs) : L2.wipe σ' vs = L2.wipe σ vs := by
  have wn : ∀ (τ : L2.St) (ws : List Nat) (i : Nat), i ∈ ws → i < τ.length → (L2.wipe τ ws)[i]? = some none := by
    intro τ ws
    induction ws with
    | nil => intro i h; cases h
    | cons w ws ih =>
      intro i h hi
      unfold L2.wipe
      by_cases e : w = i
      · subst e
        exact List.getElem?_set_self (by rw [wipe_length]; exact hi)
      · rw [List.getElem?_set_ne e]
        exact ih i ((List.mem_cons.mp h).resolve_left fun q => e q.symm) hi
  apply List.ext_getElem?
  intro i
  by_cases hi : i ∈ vs
  · by_cases hs : i < σ.length
    · rw [wn σ vs i hi hs, wn σ' vs i hi (by rw [hl, wipe_length]; exact hs)]
    · rw [List.getElem?_eq_none (by rw [wipe_length, hl, wipe_length]; omega), List.getElem?_eq_none (by rw [wipe_length]; omega)]
  · rw [wipe_out hi, hj i fun q => hi (his i q)]
/-- one item's part of a comprehension -/
def lcOne (asg : SG) (t : SB) (e : SE) (F : Fn) (ρ : RE.Env) (d : D) : Option (List D) := (asg d ρ).bind fun ρ' => (t F ρ').bind fun b => if b then (e F ρ').map fun y => [y] else some []
def lcAll (one : D → Option (List D)) : List D → Option (List D)
  | [] => some []
  | d :: ds => (one d).bind fun ys => (lcAll one ds).map (ys ++ ·)
theorem lcAll_snoc (one : D → Option (List D)) (d : D) : ∀ xs : List D, lcAll one (xs ++ [d]) = (lcAll one xs).bind fun a => (one d).map (a ++ ·)
  | [] => by simp [lcAll]
  | x :: xs => by
    simp only [List.cons_append, lcAll, lcAll_snoc one d xs]
    cases one x with
    | none => rfl
    | some ys =>
      simp only [Option.bind_some]
      cases lcAll one xs with
      | none => rfl
      | some a =>
        simp only [Option.bind_some, Option.map_some]
        cases one d <;> simp
theorem lcAll_app (one : D → Option (List D)) (ys : List D) : ∀ xs : List D, lcAll one (xs ++ ys) = (lcAll one xs).bind fun a => (lcAll one ys).map (a ++ ·)
  | [] => by simp [lcAll]
  | x :: xs => by
    simp only [List.cons_append, lcAll, lcAll_app one ys xs]
    cases one x with
    | none => rfl
    | some zs =>
      simp only [Option.bind_some]
      cases lcAll one xs with
      | none => rfl
      | some a =>
        simp only [Option.bind_some, Option.map_some]
        cases lcAll one ys <;> simp
/-- the start of a whole -/
theorem lcAll_take {one : D → Option (List D)} {ds outs : List D} (h : lcAll one ds = some outs) (i : Nat) : ∃ pre post, lcAll one (ds.take i) = some pre ∧ outs = pre ++ post := by
  rw [← List.take_append_drop i ds, lcAll_app] at h
  obtain ⟨a, e1, e2⟩ := Option.bind_eq_some_iff.mp h
  obtain ⟨b, e3, rfl⟩ := Option.map_eq_some_iff.mp e2
  exact ⟨a, b, e1, rfl⟩
def cLc (own : List Nat) (fi : SL) (asg : SG) (t : SB) (e : SE) : SE := fun F ρ => (fi F ρ).bind fun ds => (lcAll (lcOne asg t e F (wipeE ρ own)) ds).bind mkLst
def plainIter : Expr → Bool
  | .List _ _ => false
  | .Set _ _ _ => false
  | _ => true
theorem upd_fun {H : Hp} {a : Addr} {o : HO} {b : Addr} {u : HO} (e : upd H a o b = some u) : (b = a ∧ u = o) ∨ (b ≠ a ∧ H b = some u) := by
  by_cases h : b = a
  · subst h; rw [upd_same] at e; cases e; exact .inl ⟨rfl, rfl⟩
  · rw [upd_ne h] at e; exact .inr ⟨h, e⟩
theorem fre_minus {P : Addr → Prop} {H : Hp} {D : Addr} (fr : Fre P H) (hD : H D ≠ none) : Fre (fun b => P b ∧ b ≠ D) H := fun a ha => ⟨fr a ha, fun e => hD (e ▸ ha)⟩
/-- as EvN; assigned to a name on one line too -/
structure EvNS (X : Cx) (ks : Ks) (F : Fn) (e : Expr) (f : SE) : Prop where
  ex : ∃ t : TE, (PE X e t ∧ ∀ (i : Nat) (y : Str) (py spos : Pos), X.N[i]? = some y → X.env.scope.names.lookup y = some .local → swapsWith e (some (.Name y py)) spos.line X.env = pure true → PS X (.Assign [.Name y py] e spos) (tAsg t (gName i))) ∧
    ∀ σ H, Cn X.mg H ks F f σ (fun P d v H' => Rep P H' d v ∧ TopNew H d v) t
theorem EvNS.toN {X : Cx} {ks : Ks} {F : Fn} {e : Expr} {f : SE} (h : EvNS X ks F e f) : EvN X ks F e f := let ⟨t, p, q⟩ := h.ex; ⟨t, p.1, q⟩
theorem evNS_lc {X : Cx} {ks ks' : Ks} {F : Fn} {elt tg iter : Expr} {ifs : List Expr} {scope : Scope} {own : List (Str × Nat)} {pos : Pos} {fi : SL} {is : List Nat} {asg : SG} {ft : SB} {fe : SE} (hc : X.calm = true) (hN : X.N.Nodup)
    (hi : EvI X ks F tg iter fi) (ok : BlkOk X.N X.env.scope scope own) (his : ∀ j ∈ is, j ∈ own.map (·.2)) (hk : ∀ i, i ∉ own.map (·.2) → kd ks' i = kd ks i)
    (hg : ∀ (s : Shared) (H : Hp) (C : Addr) (cl : List (Str × Addr)) (fp : List Addr), EvG (X.blk s H scope (compEnvC scope cl C X.env) fp) ks' tg is asg)
    (ht : ∀ (s : Shared) (H : Hp) (C : Addr) (cl : List (Str × Addr)) (fp : List Addr), EvTs (X.blk s H scope (compEnvC scope cl C X.env) fp) ks' F ifs ft)
    (he : ∀ (s : Shared) (H : Hp) (C : Addr) (cl : List (Str × Addr)) (fp : List Addr), EvE (X.blk s H scope (compEnvC scope cl C X.env) fp) ks' F elt fe)
    (hs : ∀ x, foldedSetIterable iter X.env x = pure x) : EvNS X ks F (.ListComp elt [⟨tg, iter, ifs, 0⟩] scope pos) (cLc (own.map (·.2)) fi asg ft fe) := by
  obtain ⟨wi, pi, q⟩ := hi.ex
  refine ⟨_, ⟨pe_lc (g := tG X.mg ks' is asg) (tt := tT X.mg ks' F ft) (te := tE X.mg ks' F fe) hc hN pi ok (fun s H C cl fp => (hg s H C cl fp).can) (fun s H C cl fp => (ht s H C cl fp).can) (fun s H C cl fp => (he s H C cl fp).can) hs,
    fun i y py spos hy hyl hsw => ps_setLc (g := tG X.mg ks' is asg) (tt := tT X.mg ks' F ft) (te := tE X.mg ks' F fe) hc hN hy hyl hsw pi ok (fun s H C cl fp => (hg s H C cl fp).can) (fun s H C cl fp => (ht s H C cl fp).can) (fun s H C cl fp => (he s H C cl fp).can) hs⟩, fun σ H P ρ Q d fr er ev k => ?_⟩
  obtain ⟨ds, e1, ev1⟩ := Option.bind_eq_some_iff.mp ev
  obtain ⟨outs, e2, ev2⟩ := Option.bind_eq_some_iff.mp ev1
  obtain ⟨rfl, hlen⟩ := mkLst_some ev2
  refine q σ H P ρ _ ds fr er e1 fun J H1 src s1 wk top Dl hD => ?_
  have fr1 := fr.same s1
  have er1 := er.same s1
  have wk := wk (fun b => P b ∧ b ≠ Dl) fun a ha pa => ⟨pa, fun e => ha (e ▸ hD)⟩
  have kept : ∀ H2, (∀ b o, H1 b = some o → H2 b = some o) → Kept (fun b => P b ∧ b ≠ Dl) src H1 H2 := fun H2 h b o e _ => h b o e
  refine lc_it (n := ds.length) (G := fun H2 => Kept (fun b => P b ∧ b ≠ Dl) src H1 H2) (Y := fun i H2 x H3 => Same H2 H3 ∧ ∃ d, ds[i]? = some d ∧ Rep (fun b => P b ∧ b ≠ Dl) H3 d x) ⟨fun i H2 hi g => wk.goes H2 i g hi, fun H2 g => wk.stops H2 g, fun i H2 x H3 hi g y => wk.yields H2 i x H3 g hi y⟩
    (fun i H2 => ∃ vs pre, lcAll (lcOne asg ft fe F (wipeE ρ (own.map (·.2)))) (ds.take i) = some pre ∧ H2 Dl = some (.lst vs) ∧ RepL (fun b => P b ∧ b ≠ Dl) H2 pre vs ∧ ∀ b o, H1 b = some o → H2 b = some o) ?_ ?_ ?_ ?_
  · refine ⟨[], [], by simp [lcAll], upd_same, by simp [RepL], fun b o e => ?_⟩
    rw [upd_ne (ne_of_none e hD)]; exact e
  · rintro i H2 _ ⟨vs, pre, _, _, _, h⟩
    exact kept H2 h
  · rintro i x H2 H3 hi ⟨vs, pre, hpre, hDl, hr, hkp⟩ ⟨s3, d, hd, rd⟩
    have e3 : ds.take (i + 1) = ds.take i ++ [d] := by rw [List.take_add_one, hd]; rfl
    obtain ⟨pre', post, e4, e5⟩ := lcAll_take e2 (i + 1)
    have e4' := e4
    rw [e3, lcAll_snoc, hpre] at e4
    simp only [Option.bind_some] at e4
    obtain ⟨ys, e6, rfl⟩ := Option.map_eq_some_iff.mp e4
    obtain ⟨ρ', e7, e8⟩ := Option.bind_eq_some_iff.mp e6
    obtain ⟨b, e9, e10⟩ := Option.bind_eq_some_iff.mp e8
    have hD3 : H3 Dl = some (.lst vs) := s3 _ _ hDl
    have all3 : ∀ b o, H1 b = some o → H3 b = some o := fun b o e => s3 b o (hkp b o e)
    have sm : Same H1 H3 := all3
    have fr3 : Fre (fun b => P b ∧ b ≠ Dl) H3 := fre_minus (fr1.same sm) (by rw [hD3]; simp)
    have er3 : ER X.mg (fun b => P b ∧ b ≠ Dl) ks' H3 (L2.wipe σ (own.map (·.2))) (wipeE ρ (own.map (·.2))) := ER.wipe (er1.mono sm fun a ha pa => ⟨pa, fun e => ha (e ▸ hD)⟩) hk
    refine ⟨_, _, _, d, rd, er3, e7, fun σ' er' hl hj => ⟨wipe_eq hl hj his, ?_⟩⟩
    refine ⟨_, ρ', b, fr3, er', e9, fun H4 s4 => ?_⟩
    have all4 : ∀ b o, H1 b = some o → H4 b = some o := fun b o e => s4 b o (all3 b o e)
    cases b with
    | false =>
      rw [if_neg Bool.false_ne_true] at e10
      refine iteF ?_
      cases e10
      exact ⟨vs, pre ++ [], e4', s4 _ _ hD3, by rw [List.append_nil]; exact (hr.same s3).same s4, all4⟩
    | true =>
      rw [if_pos rfl] at e10
      refine iteT ?_
      obtain ⟨y, e11, rfl⟩ := Option.map_eq_some_iff.mp e10
      refine ⟨_, ρ', y, fr3.same s4, er'.same s4, e11, fun v H5 s5 r5 => ?_⟩
      have hD5 : H5 Dl = some (.lst vs) := s5 _ _ (s4 _ _ hD3)
      have rl := ((hr.same s3).same s4).same s5
      refine ⟨vs, hD5, ?_, vs ++ [v], pre ++ [y], e4', upd_same, ?_, fun b o e => ?_⟩
      · rw [rl.len]
        have : outs.length = (pre ++ [y]).length + post.length := by rw [e5, List.length_append]
        rw [List.length_append, List.length_singleton] at this
        omega
      · have r6 : RepL (fun b => P b ∧ b ≠ Dl) H5 (pre ++ [y]) (vs ++ [v]) := rl.app (by simp only [RepL]; exact ⟨v, [], rfl, r5, rfl⟩)
        exact RepL.chg (by rw [hD5]; trivial) (fun z => z.2 rfl) _ _ r6
      · rw [upd_ne (ne_of_none e hD)]
        exact s5 b o (all4 b o e)
  · rintro H2 ⟨vs, pre, hpre, hDl, hr, hkp⟩
    rw [List.take_length, e2] at hpre
    cases hpre
    refine k _ H2 (s1.trans hkp) ⟨?_, ?_⟩
    · simp only [Rep]
      exact ⟨Dl, vs, rfl, fr1 Dl hD, hDl, hr.weak fun a z => z.1⟩
    · exact topNew_ref (s1.free hD)
end RE
/-! RE8b: x[::-1]. -/
namespace HT
open PySem PyProof.Rows
section
variable {prog : Program} {w : World} {A : Around} {E : Value → Shared → Prop} {s : Shared}
theorem sliceApplied_rev {sl : Addr} {i : Tok} {n : Nat} {Q : Int × Int × Nat → Shared → Prop} (hs : s.heap.IsSliceOf sl .none .none (.int (-1) i))
    (h : Q ((n : Int) - 1, -1, n) s) : wpAny (model prog w) A (Builtin.Slice.sliceApplied (.ref sl) (pure (n : Int))) Q E s := by
  obtain ⟨os, hos, hcs, hds⟩ := id hs
  unfold Builtin.Slice.sliceApplied Builtin.Slice.sliceFields
  refine wpAny_bind (wpAny_bind (wpAny_field hos hds (x := .none) rfl (wpAny_bind (wpAny_field hos hds (x := .none) rfl (wpAny_bind (wpAny_field hos hds (x := .int (-1) i) rfl (wpAny_pure ?_)))))))
  refine wpAny_bind (slicePart_int ?_)
  show wpAny _ _ (if ((-1 : Int) == 0) = true then _ else _) _ _ s
  rw [if_neg (by decide)]
  refine wpAny_bind (slicePart_none (wpAny_bind (slicePart_none (wpAny_bind (wpAny_pure ?_)))))
  show wpAny _ _ (pure ((n : Int) - 1, (-1 : Int), Builtin.Slice.slicePlaces ((n : Int) - 1) (-1) (-1))) _ _ s
  have e : Builtin.Slice.slicePlaces ((n : Int) - 1) (-1) (-1) = n := by
    unfold Builtin.Slice.slicePlaces
    rw [if_neg (by omega)]
    by_cases hn : n = 0
    · subst hn; rfl
    · rw [if_pos (by omega)]
      have : ((n : Int) - 1 - -1 - 1) / (- (-1)) + 1 = n := by
        have : (- (-1 : Int)) = 1 := by omega
        rw [this, Int.ediv_one]; omega
      rw [this]; omega
  rw [e]
  exact wpAny_pure h
theorem fm_congr {α β : Type} {f g : α → Option β} : ∀ {l : List α}, (∀ m ∈ l, f m = g m) → l.filterMap f = l.filterMap g
  | [], _ => rfl
  | a :: l, h => by
    rw [List.filterMap_cons, List.filterMap_cons, h a List.mem_cons_self, fm_congr (l := l) fun m hm => h m (List.mem_cons_of_mem _ hm)]
theorem fm_all {α : Type} (l : List α) : (List.range l.length).filterMap (fun m => l[m]?) = l := by
  have : ∀ n, n ≤ l.length → (List.range n).filterMap (fun m => l[m]?) = l.take n := by
    intro n
    induction n with
    | zero => intro _; rfl
    | succ n ih =>
      intro h
      rw [List.range_succ, List.filterMap_append, ih (by omega), List.take_add_one]
      congr 1
  rw [this l.length (Nat.le_refl _), List.take_length]
theorem pick_rev (xs : Array Value) : ((List.range xs.size).filterMap fun (m : Nat) => xs[((xs.size : Int) - 1 + (m : Int) * (-1)).toNat]?).toArray = xs.toList.reverse.toArray := by
  congr 1
  have key : ∀ m ∈ List.range xs.size, xs[((xs.size : Int) - 1 + (m : Int) * (-1)).toNat]? = xs.toList.reverse[m]? := by
    intro m hm
    rw [List.mem_range] at hm
    have : ((xs.size : Int) - 1 + (m : Int) * (-1)).toNat = xs.size - 1 - m := by omega
    rw [this, List.getElem?_reverse (by simpa using hm), Array.length_toList, ← Array.getElem?_toList]
  have h3 := fm_all xs.toList.reverse
  rw [List.length_reverse, Array.length_toList] at h3
  exact (fm_congr key).trans h3
theorem getItem_tuple_rev {t sl : Addr} {items : Array Value} {i : Tok} {Q : Value → Shared → Prop} (ht : IsTup s.heap t items) (hs : s.heap.IsSliceOf sl .none .none (.int (-1) i))
    (h : Q (.ref s.heap.objs.size) { s with heap := s.heap.push { cls := .type "tuple", data := .seq items.toList.reverse.toArray } })
    (hsz : items.size ≤ sizeLine) : wpAny (model prog w) A (getItem (.ref t) (.ref sl)) Q E s := by
  have htake : sizeOk (.seq items.toList.reverse.toArray) := by
    show items.toList.reverse.toArray.size ≤ sizeLine
    simpa using hsz
  obtain ⟨os, hos, hcs, hds⟩ := id hs
  have hTs : s.TypeIs (.ref sl) "slice" := ⟨os, hos, hcs⟩
  unfold getItem
  try with_reducible refine wpAny_holding ?_
  first | refine wpAny_bind (wpAny_pure ?_) | skip
  refine wpAny_bind (wpAny_sequenceKey ht.typeIs (by decide) ?_)
  refine wpAny_bind (wpAny_callSpecial?_slot (name := Str.ofString "__getitem__") ht.typeIs PyProof.Rows.slot_tuple_getitem
    (wpAny_call_entry PyProof.Rows.slot_tuple_getitem ht.typeIs entry_tuple_getitem ?_ (args_tuple_getitem _ _)))
  show wpAny _ _ (Builtin.Tuple.tupleItemsOf (.ref t) >>= _) _ _ s
  refine wpAny_bind (tupleItemsOf_ ht ?_)
  refine wpAny_bind (wpAny_typeOf hTs ?_)
  rw [if_pos (by decide)]
  refine wpAny_bind (sliceApplied_rev hs ?_)
  show wpAny _ _ (if (((items.size : Int) - 1) == 0 && (-1 : Int) == 1 && items.size == items.size) = true then _ else _) _ _ s
  have hno : ¬ ((((items.size : Int) - 1) == 0 && (-1 : Int) == 1 && items.size == items.size) = true) := by
    simp
  rw [if_neg hno, pick_rev]
  first
    | exact wpAny_bind (m := Builtin.Tuple.tupleExact _) (wpAny_newObj_type (wpAny_pure ⟨_, rfl, wpAny_pure h⟩) htake)
    | exact wpAny_bind (m := Builtin.Tuple.tupleExact _) (wpAny_newObj_type (wpAny_bind (wpAny_pure (wpAny_pure ⟨_, rfl, wpAny_pure h⟩))) htake)
    | exact wpAny_bind (wpAny_bind (m := Builtin.Tuple.tupleExact _) (wpAny_newObj_type (wpAny_pure (wpAny_pure ⟨_, rfl, wpAny_pure h⟩)) htake))
    | exact wpAny_bind (wpAny_bind (m := Builtin.Tuple.tupleExact _) (wpAny_newObj_type (wpAny_pure ⟨_, rfl, wpAny_pure h⟩) htake))
end
end HT
namespace RE
open PySem PySem.Spec PyProof.Rows L2
def tRevT (K : PySem.W.Frag) (te : TE) : TE := fun σ H Q => te σ H fun x H1 => ∃ a xs, x = .ref a ∧ SqT K H1 a xs ∧ ∀ p, H1 p = none → Q (.ref p) (upd H1 p (.tup xs.reverse))
theorem pe_revT {X : Cx} {e : Expr} {te : TE} {k : Nat} {p1 p2 p3 pos : Pos} (he : PE X e te) : PE X (.Subscript e (.Slice none none (some (.UnaryOp .USub (.Constant (.int 1) k p1) p2)) p3) pos) (tRevT X.K te) := by
  refine ⟨fun pins s σ H Q I h => ?_⟩
  refine Subscript_ (thn (he.run pins s σ H _ I h) fun v s1 ⟨x, H1, I1, r1, q1⟩ => ?_)
  obtain ⟨a, xs, ex, hx, q⟩ := q1
  subst ex
  cases r1
  have hst : PO X (some (.UnaryOp .USub (.Constant (.int 1) k p1) p2)) (tPart (tUn (rU fun i => .int (-i)) (tC (.int 1)))) := po_some (pe_un un_neg pe_int)
  refine wpAny_Slice (thn (po_none.run pins s1 σ H1 (fun o H2 => o = none ∧ H2 = H1) I1 ⟨rfl, rfl⟩) fun vl s2 ⟨l, H2, I2, pl, el, e2⟩ => ?_)
  subst el e2
  refine thn (po_none.run pins s2 σ H2 (fun o H3 => o = none ∧ H3 = H2) I2 ⟨rfl, rfl⟩) fun vu s3 ⟨u, H3, I3, pu, eu, e3⟩ => ?_
  subst eu e3
  refine thn (hst.run pins s3 σ H3 (fun o H4 => o = some (-1) ∧ H4 = H3) I3 ⟨1, rfl, -1, rfl, rfl, rfl⟩) fun vs s4 ⟨o, H4, I4, ps, eo, e4⟩ => ?_
  subst eo e4
  cases pl
  cases pu
  cases ps with
  | int _ tk =>
    have I5 : Inv X pins σ H4 { s4 with heap := s4.heap.push { cls := .type "slice", data := .fields #[.none, .none, .int (-1) tk] } } := I4.kept (t' := s4.toks) fun b ob q => Heap.get?_push_of_some _ q
    obtain ⟨its, r, ht, hz⟩ := I5.tuple hx
    have hlen := r.length
    show wpAny (model X.prog X.w) X.A (subscriptTail e (.Slice none none (some (.UnaryOp .USub (.Constant (.int 1) k p1) p2)) p3) (.ref a) (.ref s4.heap.objs.size)) (EP X pins σ Q) X.xe { s4 with heap := s4.heap.push { cls := .type "slice", data := .fields #[.none, .none, .int (-1) tk] } }
    refine tail_any (ops := [.ref a, .ref s4.heap.objs.size]) ht.typeIs (PyProof.Rows.slot_tuple_getitem.lookup) ?_ (by with_unfolding_all rfl)
    refine HT.getItem_tuple_rev ht (Heap.IsSliceOf.new _ .none .none (.int (-1) tk)) ?_ (by rw [List.size_toArray]; omega)
    refine ⟨.ref _, _, I5.laid (t' := s4.toks) (o := .tup xs.reverse) (fun b ob q => Heap.get?_push_of_some _ q) (Nat.le_refl _) ?_, rfl, q _ (I5.hok.fresh (Nat.le_refl _))⟩
    exact ⟨by rw [List.length_reverse]; exact hz, _, r.reverse, IsTup.new _ _⟩
theorem pick_all {α : Type} : ∀ m : List α, (List.range m.length).filterMap (fun k => m[k]?) = m
  | [] => rfl
  | x :: m => by
    rw [List.length_cons, List.range_succ_eq_map, List.filterMap_cons, List.filterMap_map]
    show x :: (List.range m.length).filterMap (fun k => m[k]?) = _
    rw [pick_all m]
theorem pick_back {α : Type} (l : List α) : (List.range l.length).filterMap (fun k => l[l.length - 1 - k]?) = l.reverse := by
  have h : ∀ k ∈ List.range l.length, l[l.length - 1 - k]? = l.reverse[k]? := fun k hk => (List.getElem?_reverse (List.mem_range.mp hk)).symm
  rw [HT.fm_congr h]
  have := pick_all l.reverse
  rw [List.length_reverse] at this
  exact this
def revS (z : Str) : Str := ⟨z.cps.toList.reverse.toArray⟩
theorem idx_back (n : Nat) : Builtin.Str.strSliceIndices none none (-1) n = (List.range n).map fun k => n - 1 - k := by
  show sliceRange (if ((-1 : Int) > 0) then 0 else (n : Int) - 1) (if ((-1 : Int) > 0) then (n : Int) else -1) (-1) = _
  rw [if_neg (by omega), if_neg (by omega)]
  unfold sliceRange
  rw [if_neg (by omega)]
  by_cases h : (n : Int) - 1 > -1
  · simp only [if_pos h]
    have e : (((n : Int) - 1 - -1 - -1 - 1) / (- -1)).toNat = n := by
      have : (- -1 : Int) = 1 := rfl
      rw [this, Int.ediv_one]
      omega
    rw [e]
    refine List.map_congr_left fun k hk => ?_
    have := List.mem_range.mp hk
    omega
  · have : n = 0 := by omega
    subst this
    simp only [if_neg h]
    rfl
theorem text_back (z : Str) : (⟨((Builtin.Str.strSliceIndices none none (-1) z.length).filterMap (z.cps[·]?)).toArray⟩ : Str) = revS z := by
  rw [idx_back, List.filterMap_map]
  unfold revS
  rw [← pick_back z.cps.toList]
  congr 2
  have e : z.cps.toList.length = z.length := Array.length_toList
  rw [e]
  refine HT.fm_congr fun k _ => ?_
  show z.cps[z.length - 1 - k]? = z.cps.toList[z.length - 1 - k]?
  rw [Array.getElem?_toList]
def tRevS (te : TE) : TE := fun σ H Q => te σ H fun x H1 => ∃ z, x = .str z ∧ z.length ≤ sizeLine ∧ Q (.str (revS z)) H1
theorem pe_revS {X : Cx} {e : Expr} {te : TE} {k : Nat} {p1 p2 p3 pos : Pos} (he : PE X e te) : PE X (.Subscript e (.Slice none none (some (.UnaryOp .USub (.Constant (.int 1) k p1) p2)) p3) pos) (tRevS te) := by
  refine ⟨fun pins s σ H Q I h => ?_⟩
  refine Subscript_ (thn (he.run pins s σ H _ I h) fun v s1 ⟨x, H1, I1, r1, q1⟩ => ?_)
  obtain ⟨z, ex, hz, q⟩ := q1
  subst ex
  obtain ⟨t, rfl⟩ := (show ∃ t, v = .str z t from r1)
  have hst : PO X (some (.UnaryOp .USub (.Constant (.int 1) k p1) p2)) (tPart (tUn (rU fun i => .int (-i)) (tC (.int 1)))) := po_some (pe_un un_neg pe_int)
  refine wpAny_Slice (thn (po_none.run pins s1 σ H1 (fun o H2 => o = none ∧ H2 = H1) I1 ⟨rfl, rfl⟩) fun vl s2 ⟨l, H2, I2, pl, el, e2⟩ => ?_)
  subst el e2
  refine thn (po_none.run pins s2 σ H2 (fun o H3 => o = none ∧ H3 = H2) I2 ⟨rfl, rfl⟩) fun vu s3 ⟨u, H3, I3, pu, eu, e3⟩ => ?_
  subst eu e3
  refine thn (hst.run pins s3 σ H3 (fun o H4 => o = some (-1) ∧ H4 = H3) I3 ⟨1, rfl, -1, rfl, rfl, rfl⟩) fun vs s4 ⟨o, H4, I4, ps, eo, e4⟩ => ?_
  subst eo e4
  cases pl
  cases pu
  cases ps with
  | int _ tk =>
    have I5 : Inv X pins σ H4 { s4 with heap := s4.heap.push { cls := .type "slice", data := .fields #[.none, .none, .int (-1) tk] } } := I4.kept (t' := s4.toks) fun b ob q => Heap.get?_push_of_some _ q
    show wpAny (model X.prog X.w) X.A (subscriptTail e (.Slice none none (some (.UnaryOp .USub (.Constant (.int 1) k p1) p2)) p3) (.str z t) (.ref s4.heap.objs.size)) (EP X pins σ Q) X.xe { s4 with heap := s4.heap.push { cls := .type "slice", data := .fields #[.none, .none, .int (-1) tk] } }
    refine tail_any (ops := [.str z t, .ref s4.heap.objs.size]) (typeIs_str _ z t) (F.slot_str_getitem.lookup) ?_ (by with_unfolding_all rfl)
    refine wpAny_getItem_str_slice (l := none) (u := none) (st := some (-1, tk)) ⟨_, Heap.get?_push_size _ rfl, rfl, rfl⟩ rfl ?_
    have hl : (revS z).length ≤ sizeLine := by
      show (z.cps.toList.reverse.toArray).size ≤ sizeLine
      rw [List.size_toArray, List.length_reverse, Array.length_toList]
      exact hz
    show Made.post (if ((-1 : Int) == 1 && (Builtin.Str.strSliceIndices none none (-1) z.length).length == z.length) = true then Made.val (.str z t)
      else Made.str ⟨((Builtin.Str.strSliceIndices none none (-1) z.length).filterMap (z.cps[·]?)).toArray⟩) (EP X pins σ Q) _
    rw [if_neg (by simp), text_back]
    exact ⟨hl, .str _, H4, I5.tok _, ⟨_, rfl⟩, q⟩
/-- the other way round -/
def revD : D → Option D
  | .lst xs => some (.lst xs.reverse)
  | .tup xs => some (.tup xs.reverse)
  | .str z => if fits z.length then some (.str (revS z)) else none
  | .scr ns => some (.lst (ns.reverse.map .int))
  | _ => none
theorem RepL.rev {P : Addr → Prop} {H : Hp} : ∀ {ds : List D} {vs : List V}, RepL P H ds vs → RepL P H ds.reverse vs.reverse
  | [], vs, h => by simp only [RepL] at h; subst h; simp [RepL]
  | d :: ds, vs, h => by
    simp only [RepL] at h
    obtain ⟨v, r, rfl, h1, h2⟩ := h
    rw [List.reverse_cons, List.reverse_cons]
    exact h2.rev.app (by simp only [RepL]; exact ⟨v, [], rfl, h1, rfl⟩)
theorem evN_rev {X : Cx} {ks : Ks} {F : Fn} {e : Expr} {f : SE} {k : Nat} {p1 p2 p3 pos : Pos} (h : EvP X ks F e f) : EvN X ks F (.Subscript e (.Slice none none (some (.UnaryOp .USub (.Constant (.int 1) k p1) p2)) p3) pos) (cU revD f) := by
  obtain ⟨t, p, q⟩ := h.ex
  refine ⟨_, pe_or2 (pe_revL p) (pe_or2 (pe_revT p) (pe_revS p)), fun σ H P ρ Q d fr er ev kk => ?_⟩
  obtain ⟨x, e1, e2⟩ := Option.bind_eq_some_iff.mp ev
  cases x with
  | str z =>
    simp only [revD] at e2
    split at e2
    · rename_i c
      cases e2
      refine .inr (.inr (q σ H P ρ _ _ fr er e1 fun v H1 s1 r1 => ?_))
      simp only [RepB] at r1
      exact ⟨z, r1, of_decide_eq_true c, kk _ _ s1 ⟨by simp only [Rep], trivial⟩⟩
    · cases e2
  | tup xs =>
    cases e2
    refine .inr (.inl (q σ H P ρ _ _ fr er e1 fun v H1 s1 r1 => ?_))
    obtain ⟨a, vs, rfl, h1, h2⟩ := r1.tup
    refine ⟨a, vs, rfl, SqT.of h1, fun p hp => kk _ _ (s1.trans (same_new hp)) ⟨?_, trivial⟩⟩
    simp only [Rep]
    exact ⟨p, _, rfl, upd_same, (h2.same (same_new hp)).rev⟩
  | lst xs =>
    cases e2
    refine .inl (q σ H P ρ _ _ fr er e1 fun v H1 s1 r1 => ?_)
    obtain ⟨a, vs, rfl, h1, h2⟩ := r1.lst
    refine ⟨a, vs, rfl, SqL.of h1, fun p hp => kk _ _ (s1.trans (same_new hp)) ⟨?_, topNew_ref (s1.free hp)⟩⟩
    simp only [Rep]
    exact ⟨p, _, rfl, (fr.same s1) p hp, upd_same, (h2.same (same_new hp)).rev⟩
  | scr ns =>
    cases e2
    refine .inl (q σ H P ρ _ _ fr er e1 fun v H1 s1 r1 => ?_)
    simp only [RepB, Rep] at r1
    obtain ⟨a, o, rfl, h1⟩ := r1
    refine ⟨a, _, rfl, .inl (.inr ⟨o, h1⟩), fun p hp => kk _ _ (s1.trans (same_new hp)) ⟨?_, topNew_ref (s1.free hp)⟩⟩
    simp only [Rep]
    refine ⟨p, _, rfl, (fr.same s1) p hp, upd_same, ?_⟩
    rw [← List.map_reverse]
    exact RepL.ofInts _
  | _ => cases e2
end RE
/-! RE8c: lists cut by steps, x[a:b:n]. -/
namespace RE
open PySem PySem.Spec PyProof.Rows L2

/-- the items that a slice by steps takes -/
def pickL {α : Type} (xs : List α) (lo hi : Option Int) (n : Int) : List α := (sliceRange (sliceBounds lo hi (some n) xs.length).1 (sliceBounds lo hi (some n) xs.length).2.1 (sliceBounds lo hi (some n) xs.length).2.2).filterMap (xs[·]?)
theorem pick_mem {α : Type} {xs : List α} {lo hi : Option Int} {n : Int} {x : α} (h : x ∈ pickL xs lo hi n) : x ∈ xs := by
  unfold pickL at h
  obtain ⟨i, _, e⟩ := List.mem_filterMap.mp h
  exact List.mem_of_getElem? e
theorem Vals.some_of : ∀ {xs : List V} {us : List Value} {i : Nat}, Vals xs us → (xs[i]? = none ↔ us[i]? = none) := fun {xs us i} r => by
  rw [List.getElem?_eq_none_iff, List.getElem?_eq_none_iff, r.length]
theorem Vals.pick {xs : List V} {us : List Value} (r : Vals xs us) : ∀ l : List Nat, Vals (l.filterMap (xs[·]?)) (l.filterMap (us[·]?))
  | [] => .nil
  | i :: l => by
    cases hx : xs[i]? with
    | none =>
      have hu := (Vals.some_of r).mp hx
      rw [List.filterMap_cons_none hx, List.filterMap_cons_none hu]
      exact Vals.pick r l
    | some x =>
      obtain ⟨u, hu, rel⟩ := r.get hx
      rw [List.filterMap_cons_some hx, List.filterMap_cons_some hu]
      exact .cons rel (Vals.pick r l)
theorem RepL.pick {P : Addr → Prop} {H : Hp} {ds : List D} {vs : List V} (h : RepL P H ds vs) : ∀ l : List Nat, RepL P H (l.filterMap (ds[·]?)) (l.filterMap (vs[·]?))
  | [] => by simp [RepL]
  | i :: l => by
    by_cases hi : i < ds.length
    · obtain ⟨v, hv, rel⟩ := h.get (List.getElem?_eq_getElem hi)
      rw [List.filterMap_cons_some (List.getElem?_eq_getElem hi), List.filterMap_cons_some hv]
      simp only [RepL]
      exact ⟨v, _, rfl, rel, RepL.pick h l⟩
    · have hd : ds[i]? = none := List.getElem?_eq_none (by omega)
      have hv : vs[i]? = none := List.getElem?_eq_none (by rw [h.len]; omega)
      rw [List.filterMap_cons_none hd, List.filterMap_cons_none hv]
      exact RepL.pick h l
theorem RepL.pickL {P : Addr → Prop} {H : Hp} {ds : List D} {vs : List V} (h : RepL P H ds vs) (lo hi : Option Int) (n : Int) : RepL P H (RE.pickL ds lo hi n) (RE.pickL vs lo hi n) := by
  unfold RE.pickL
  rw [h.len]
  exact RepL.pick h _
theorem pick_len {α : Type} (xs : List α) (lo hi : Option Int) (n : Int) : (pickL xs lo hi n).length ≤ (sliceRange (sliceBounds lo hi (some n) xs.length).1 (sliceBounds lo hi (some n) xs.length).2.1 (sliceBounds lo hi (some n) xs.length).2.2).length := List.length_filterMap_le _ _
def tStep (K : PySem.W.Frag) (te : TE) (tl tu : TO) (n : Int) : TE := fun σ H Q => te σ H fun x H1 => (∃ a xs, x = .ref a ∧ SqL K H1 a xs) ∧ tl σ H1 fun l H2 => tu σ H2 fun u H3 => ∃ a xs, x = .ref a ∧ SqL K H3 a xs ∧ (pickL xs l u n).length ≤ sizeLine ∧ ∀ p, H3 p = none → Q (.ref p) (upd H3 p (.lst (pickL xs l u n)))
theorem pe_stepL {X : Cx} {e : Expr} {lo hi : Option Expr} {te : TE} {tl tu : TO} {n : Int} {k : Nat} {p1 p3 pos : Pos} (hn : n ≠ 0) (he : PE X e te) (hl : PO X lo tl) (hu : PO X hi tu) : PE X (.Subscript e (.Slice lo hi (some (.Constant (.int n) k p1)) p3) pos) (tStep X.K te tl tu n) := by
  refine ⟨fun pins s σ H Q I h => ?_⟩
  refine Subscript_ (thn (he.run pins s σ H _ I h) fun v s1 ⟨x, H1, I1, r1, _, q1⟩ => ?_)
  have hst : PO X (some (.Constant (.int n) k p1)) (tPart (tC (.int n))) := po_some pe_int
  refine wpAny_Slice (thn (hl.run pins s1 σ H1 _ I1 q1) fun vl s2 ⟨l, H2, I2, pl, q2⟩ => ?_)
  refine thn (hu.run pins s2 σ H2 _ I2 q2) fun vu s3 ⟨u, H3, I3, pu, q3⟩ => ?_
  refine thn (hst.run pins s3 σ H3 (fun o H4 => o = some n ∧ H4 = H3) I3 ⟨n, rfl, rfl, rfl⟩) fun vs s4 ⟨o, H4, I4, ps, eo, e4⟩ => ?_
  subst eo e4
  obtain ⟨a, xs, ex, hx, hb, q⟩ := q3
  subst ex
  cases r1
  have I5 : Inv X pins σ H4 { s4 with heap := s4.heap.push { cls := .type "slice", data := .fields #[vl, vu, vs] } } := I4.kept (t' := s4.toks) fun b ob q => Heap.get?_push_of_some _ q
  obtain ⟨its, r, ht, hz⟩ := I5.list hx
  have hlen := r.length
  show wpAny (model X.prog X.w) X.A (subscriptTail e (.Slice lo hi (some (.Constant (.int n) k p1)) p3) (.ref a) (.ref s4.heap.objs.size)) (EP X pins σ Q) X.xe { s4 with heap := s4.heap.push { cls := .type "slice", data := .fields #[vl, vu, vs] } }
  refine tail_any (ops := [.ref a, .ref s4.heap.objs.size]) ht.isList.typeIs (PySem.slot_list_getitem.lookup) ?_ (by with_unfolding_all rfl)
  refine wpAny_getItem_list_slice ht.isList (Heap.IsSliceOf.new _ vl vu vs) pl pu ps (by simpa using hn) ?_ (by rw [List.size_toArray]; omega)
  have ep : slicePick its.toArray l u (some n) = (pickL its l u n).toArray := by
    unfold slicePick pickL
    rw [List.size_toArray]
    congr 2
    funext j
    simp
  rw [ep]
  refine ⟨.ref _, _, I5.laid (t' := s4.toks) (o := .lst (pickL xs l u n)) (fun b ob q => Heap.get?_push_of_some _ q) (Nat.le_refl _) ?_, rfl, q _ (I5.hok.fresh (Nat.le_refl _))⟩
  refine ⟨hb, _, 0, ?_, Heap.get?_push_size _ rfl⟩
  unfold pickL
  rw [hlen]
  exact Vals.pick r _
/-- x[a:b:n] of a list -/
def stepD (n : Int) (lo hi : Option Int) : D → Option D
  | .lst xs => if fits (pickL xs lo hi n).length then some (.lst (pickL xs lo hi n)) else none
  | _ => none
def cStep (f : SE) (lo hi : SO) (n : Int) : SE := fun F ρ => (f F ρ).bind fun d => (lo F ρ).bind fun l => (hi F ρ).bind fun h => stepD n l h d
theorem evN_step {X : Cx} {ks : Ks} {F : Fn} {e : Expr} {lo hi : Option Expr} {f : SE} {g h : SO} {n : Int} {k : Nat} {p1 p3 pos : Pos} (hn : n ≠ 0) (he : EvP X ks F e f) (hl : EvO X ks F lo g) (hh : EvO X ks F hi h) : EvN X ks F (.Subscript e (.Slice lo hi (some (.Constant (.int n) k p1)) p3) pos) (cStep f g h n) := by
  obtain ⟨t, p, q⟩ := he.ex
  obtain ⟨tl, pl, ql⟩ := hl.ex
  obtain ⟨tu, pu, qu⟩ := hh.ex
  refine ⟨_, pe_stepL hn p pl pu, fun σ H P ρ Q d fr er ev kk => ?_⟩
  obtain ⟨x, e1, ev1⟩ := Option.bind_eq_some_iff.mp ev
  obtain ⟨l, e2, ev2⟩ := Option.bind_eq_some_iff.mp ev1
  obtain ⟨u, e3, ev3⟩ := Option.bind_eq_some_iff.mp ev2
  cases x <;> simp only [stepD] at ev3 <;> first | (cases ev3; done) | skip
  by_cases c : fits (RE.pickL ‹List D› l u n).length = true
  · rw [if_pos c] at ev3
    cases ev3
    refine q σ H P ρ _ _ fr er e1 fun v H1 s1 r1 => ?_
    obtain ⟨a, vs, rfl, h1, h2⟩ := r1.lst
    refine ⟨⟨a, vs, rfl, SqL.of h1⟩, ql σ H1 P ρ _ l (fr.same s1) (er.same s1) e2 fun H2 s2 => ?_⟩
    refine qu σ H2 P ρ _ u ((fr.same s1).same s2) ((er.same s1).same s2) e3 fun H3 s3 => ?_
    have h4 := (h2.same s2).same s3
    refine ⟨a, vs, rfl, SqL.of (s3 _ _ (s2 _ _ h1)), ?_, fun p hp => kk _ _ (((s1.trans s2).trans s3).trans (same_new hp)) ⟨?_, topNew_ref (((s1.trans s2).trans s3).free hp)⟩⟩
    · rw [(h4.pickL l u n).len]
      exact of_decide_eq_true c
    · simp only [Rep]
      exact ⟨p, _, rfl, (((fr.same s1).same s2).same s3) p hp, upd_same, (h4.pickL l u n).same (same_new hp)⟩
  · rw [if_neg c] at ev3; cases ev3
end RE
/-! RE9: statements. -/
namespace RE
open PySem PySem.Spec PyProof.Rows L2

inductive Res where
  | nx (ρ : RE.Env) | rt (nw : Bool) (d : D)
abbrev SS := Fn → RE.Env → Option Res
/-- the state within a def's body: Hb, Pe: the heap and the allowed places at its entry; P: the allowed places now -/
structure SR (mg : Str → Option Value) (Hb : Hp) (Pe P : Addr → Prop) (ks : Ks) (H : Hp) (σ : L2.St) (ρ : RE.Env) : Prop where
  freE : ∀ a, Hb a = none → Pe a
  sub : ∀ a, P a → Pe a
  fre : Fre P H
  keep : Same Hb H
  er : ER mg P ks H σ ρ
  own : ∀ i d, (kd ks i = .M ∨ kd ks i = .L) → ρ[i]? = some (some d) → isMut d = true → ∃ a, σ[i]? = some (some (.ref a)) ∧ Hb a = none ∧ ¬ P a ∧ (kd ks i = .M → Chg (H a))
  dist : ∀ i j d e a, i ≠ j → (kd ks i = .M ∨ kd ks i = .L) → (kd ks j = .M ∨ kd ks j = .L) → ρ[i]? = some (some d) → ρ[j]? = some (some e) → isMut d = true → isMut e = true → σ[i]? = some (some (.ref a)) → σ[j]? = some (some (.ref a)) → False
  bord : ∀ i d a, kd ks i = .B → ρ[i]? = some (some d) → isMut d = true → σ[i]? = some (some (.ref a)) → Hb a ≠ none
  nofn : ∀ i g, (kd ks i = .M ∨ kd ks i = .L) → ρ[i]? ≠ some (some (.fn g))
/-- what a piece of a body leaves as it was -/
structure Frm (ks : Ks) (P : Addr → Prop) (H : Hp) (σ : L2.St) (ρ : RE.Env) (P' : Addr → Prop) (H' : Hp) (σ' : L2.St) (ρ' : RE.Env) : Prop where
  sub : ∀ a, P' a → P a
  ext : ∀ a, H a ≠ none → P a → P' a
  slots : ∀ i, kd ks i = .L ∨ kd ks i = .B → σ'[i]? = σ[i]? ∧ ρ'[i]? = ρ[i]?
  objs : ∀ b o, H b = some o → Top ks σ ρ P b ∨ ¬ Chg (some o) → H' b = some o
  there : ∀ c, H c ≠ none → H' c ≠ none
theorem Frm.refl {ks : Ks} {P : Addr → Prop} {H : Hp} {σ : L2.St} {ρ : RE.Env} : Frm ks P H σ ρ P H σ ρ := ⟨fun _ p => p, fun _ _ p => p, fun _ _ => ⟨rfl, rfl⟩, fun _ _ e _ => e, fun _ h => h⟩
theorem Frm.trans {ks : Ks} {P P1 P2 : Addr → Prop} {H H1 H2 : Hp} {σ σ1 σ2 : L2.St} {ρ ρ1 ρ2 : RE.Env} (a : Frm ks P H σ ρ P1 H1 σ1 ρ1) (b : Frm ks P1 H1 σ1 ρ1 P2 H2 σ2 ρ2) : Frm ks P H σ ρ P2 H2 σ2 ρ2 where
  sub := fun c p => a.sub c (b.sub c p)
  ext := fun c h p => b.ext c (a.there c h) (a.ext c h p)
  slots := fun i h => ⟨(b.slots i h).1.trans (a.slots i h).1, (b.slots i h).2.trans (a.slots i h).2⟩
  objs := fun c o e h => by
    refine b.objs c o (a.objs c o e h) ?_
    rcases h with (p | ⟨i, d, hi, hs, hr, hm⟩) | h
    · exact .inl (.inl (a.ext c (by rw [e]; simp) p))
    · exact .inl (.inr ⟨i, d, hi, by rw [(a.slots i hi).1]; exact hs, by rw [(a.slots i hi).2]; exact hr, hm⟩)
    · exact .inr h
  there := fun c h => b.there c (a.there c h)
theorem Frm.of_same {ks : Ks} {P : Addr → Prop} {H H' : Hp} {σ : L2.St} {ρ : RE.Env} (s : Same H H') : Frm ks P H σ ρ P H' σ ρ := ⟨fun _ p => p, fun _ _ p => p, fun _ _ => ⟨rfl, rfl⟩, fun b o e _ => s b o e, fun c h z => h (s.free z)⟩
theorem SR.same {mg : Str → Option Value} {Hb : Hp} {Pe P : Addr → Prop} {ks : Ks} {H H' : Hp} {σ : L2.St} {ρ : RE.Env} (h : SR mg Hb Pe P ks H σ ρ) (s : Same H H') : SR mg Hb Pe P ks H' σ ρ where
  freE := h.freE
  sub := h.sub
  fre := h.fre.same s
  keep := h.keep.trans s
  er := h.er.same s
  own := fun i d hk e m => by
    obtain ⟨a, h1, h2, h3, h4⟩ := h.own i d hk e m
    refine ⟨a, h1, h2, h3, fun q => ?_⟩
    have c := h4 q
    cases q0 : H a with
    | none => rw [q0] at c; exact c.elim
    | some o => rw [s a o q0]; rw [q0] at c; exact c
  dist := h.dist
  bord := h.bord
  nofn := h.nofn
def Post (mg : Str → Option Value) (Hb : Hp) (Pe P : Addr → Prop) (ks : Ks) (H : Hp) (σ : L2.St) (ρ : RE.Env) (D : Ends) : Res → Prop
  | .nx ρ' => ∀ P' σ' H', SR mg Hb Pe P' ks H' σ' ρ' → Frm ks P H σ ρ P' H' σ' ρ' → D.nx σ' H'
  | .rt nw d => ∀ v H', Same Hb H' → Rep Pe H' d v → (nw = true → TopNew Hb d v) → D.rt v H'
structure EvS (X : Cx) (ks : Ks) (F : Fn) (st : Stmt) (g : SS) : Prop where
  ex : ∃ t : TS, PS X st t ∧ ∀ Hb Pe P H σ ρ D r, SR X.mg Hb Pe P ks H σ ρ → g F ρ = some r → Post X.mg Hb Pe P ks H σ ρ D r → t D σ H
structure EvSs (X : Cx) (ks : Ks) (F : Fn) (st : List Stmt) (g : SS) : Prop where
  ex : ∃ t : TS, PSs X st t ∧ ∀ Hb Pe P H σ ρ D r, SR X.mg Hb Pe P ks H σ ρ → g F ρ = some r → Post X.mg Hb Pe P ks H σ ρ D r → t D σ H

section
variable {X : Cx} {ks : Ks} {F : Fn} {pos : Pos}
def sNil : SS := fun _ ρ => some (.nx ρ)
def sSeq (f g : SS) : SS := fun F ρ => (f F ρ).bind fun r => match r with | .nx ρ' => g F ρ' | .rt b d => some (.rt b d)
theorem evSs_nil : EvSs X ks F [] sNil := ⟨tNext, pss_nil, fun Hb Pe P H σ ρ D r sr e k => by cases e; exact k P σ H sr Frm.refl⟩
theorem Post.after {mg : Str → Option Value} {Hb : Hp} {Pe P P1 : Addr → Prop} {H H1 : Hp} {σ σ1 : L2.St} {ρ ρ1 : RE.Env} {D : Ends} {r : Res} (k : Post mg Hb Pe P ks H σ ρ D r) (f : Frm ks P H σ ρ P1 H1 σ1 ρ1) : Post mg Hb Pe P1 ks H1 σ1 ρ1 D r := by
  cases r with
  | nx ρ' => exact fun P' σ' H' sr f' => k P' σ' H' sr (f.trans f')
  | rt b d => exact k
theorem evSs_cons {st : Stmt} {rest : List Stmt} {f g : SS} (h : EvS X ks F st f) (h' : EvSs X ks F rest g) : EvSs X ks F (st :: rest) (sSeq f g) := by
  obtain ⟨t, p, q⟩ := h.ex
  obtain ⟨t', p', q'⟩ := h'.ex
  refine ⟨tSeq t t', pss_cons p p', fun Hb Pe P H σ ρ D r sr e k => ?_⟩
  obtain ⟨r1, e1, e2⟩ := Option.bind_eq_some_iff.mp e
  refine q Hb Pe P H σ ρ _ r1 sr e1 ?_
  cases r1 with
  | nx ρ1 => exact fun P1 σ1 H1 sr1 f1 => q' Hb Pe P1 H1 σ1 ρ1 D r sr1 e2 (k.after f1)
  | rt b d => cases e2; exact k

/-! ### assignments -/
theorem SR.assign {mg : Str → Option Value} {Hb : Hp} {Pe P : Addr → Prop} {H : Hp} {σ σ' : L2.St} {ρ ρ' : RE.Env} {is : List Nat} (h : SR mg Hb Pe P ks H σ ρ) (hF : ∀ j ∈ is, kd ks j = .F) (er : ER mg P ks H σ' ρ') (hs : ∀ j, j ∉ is → σ'[j]? = σ[j]?) (hρ : ∀ j, j ∉ is → ρ'[j]? = ρ[j]?) : SR mg Hb Pe P ks H σ' ρ' where
  freE := h.freE
  sub := h.sub
  fre := h.fre
  keep := h.keep
  er := er
  own := fun i d hk e m => by
    have ni : i ∉ is := fun q => by rw [hF i q] at hk; rcases hk with z | z <;> cases z
    rw [hs i ni]
    exact h.own i d hk (by rw [← hρ i ni]; exact e) m
  dist := fun i j d e a ij hi hj e1 e2 m1 m2 s1 s2 => by
    have ni : i ∉ is := fun q => by rw [hF i q] at hi; rcases hi with z | z <;> cases z
    have nj : j ∉ is := fun q => by rw [hF j q] at hj; rcases hj with z | z <;> cases z
    exact h.dist i j d e a ij hi hj (by rw [← hρ i ni]; exact e1) (by rw [← hρ j nj]; exact e2) m1 m2 (by rw [← hs i ni]; exact s1) (by rw [← hs j nj]; exact s2)
  bord := fun i d a hk e m s => by
    have ni : i ∉ is := fun q => by rw [hF i q] at hk; cases hk
    exact h.bord i d a hk (by rw [← hρ i ni]; exact e) m (by rw [← hs i ni]; exact s)
  nofn := fun i g hk => by
    have ni : i ∉ is := fun q => by rw [hF i q] at hk; rcases hk with z | z <;> cases z
    rw [hρ i ni]
    exact h.nofn i g hk
theorem Frm.assign {P : Addr → Prop} {H : Hp} {σ σ' : L2.St} {ρ ρ' : RE.Env} {is : List Nat} (hF : ∀ j ∈ is, kd ks j = .F) (hs : ∀ j, j ∉ is → σ'[j]? = σ[j]?) (hr : ∀ j, j ∉ is → ρ'[j]? = ρ[j]?) : Frm ks P H σ ρ P H σ' ρ' :=
  ⟨fun _ p => p, fun _ _ p => p, (fun i hi => have ni : i ∉ is := fun q => by rw [hF i q] at hi; exact hi.elim (fun z => nomatch z) fun z => nomatch z
    ⟨hs i ni, hr i ni⟩), fun _ _ e _ => e, fun _ h => h⟩
/-- asg touches the slots is alone -/
def Touches (asg : SG) (is : List Nat) : Prop := ∀ d ρ ρ', asg d ρ = some ρ' → ρ'.length = ρ.length ∧ ∀ j, j ∉ is → ρ'[j]? = ρ[j]?
def TouchesL (asg : SGs) (is : List Nat) : Prop := ∀ d ρ ρ', asg d ρ = some ρ' → ρ'.length = ρ.length ∧ ∀ j, j ∉ is → ρ'[j]? = ρ[j]?
theorem touches_name {i : Nat} : Touches (gN i) [i] := fun d ρ ρ' e => by
  cases e
  exact ⟨List.length_set, fun j hj => List.getElem?_set_ne (by simpa [eq_comm] using hj)⟩
theorem touches_nil : TouchesL gsNil [] := fun d ρ ρ' e => by
  cases d <;> cases e
  exact ⟨rfl, fun _ _ => rfl⟩
theorem touches_cons {a : SG} {b : SGs} {is js : List Nat} (h : Touches a is) (g : TouchesL b js) : TouchesL (gsCons a b) (is ++ js) := fun ds ρ ρ' e => by
  cases ds with
  | nil => cases e
  | cons d ds =>
    obtain ⟨ρ1, e1, e2⟩ := Option.bind_eq_some_iff.mp e
    obtain ⟨l1, h1⟩ := h d ρ ρ1 e1
    obtain ⟨l2, h2⟩ := g ds ρ1 ρ' e2
    refine ⟨l2.trans l1, fun j hj => ?_⟩
    rw [List.mem_append, not_or] at hj
    rw [h2 j hj.2, h1 j hj.1]
theorem touches_tup {b : SGs} {is : List Nat} (h : TouchesL b is) : Touches (gT b) is := fun d ρ ρ' e => by
  cases d <;> simp only [gT] at e <;> first | (cases e; done) | exact h _ ρ ρ' e
def sAsg (f : SE) (asg : SG) : SS := fun F ρ => (f F ρ).bind fun d => (asg d ρ).map .nx
theorem evS_asg {tg e : Expr} {f : SE} {is : List Nat} {asg : SG} (hn : noStar tg = true) (he : EvE X ks F e f) (hg : EvG X ks tg is asg) (ht : Touches asg is) (hF : ∀ j ∈ is, kd ks j = .F) (hs : swapsWithSole [tg] e pos.line X.env = pure false) (hw : swappedStores [tg] e X.env = pure none) :
    EvS X ks F (.Assign [tg] e pos) (sAsg f asg) := by
  obtain ⟨t, p, q⟩ := he.ex
  refine ⟨tAsg t (tG X.mg ks is asg), ps_asg p hg.can hs hw (by rw [assignEach_cons (noStar_ne hn)]; rfl), fun Hb Pe P H σ ρ D r sr ev k => ?_⟩
  obtain ⟨d, e1, e2⟩ := Option.bind_eq_some_iff.mp ev
  obtain ⟨ρ', e3, rfl⟩ := Option.map_eq_some_iff.mp e2
  refine q σ H P ρ _ d sr.fre sr.er e1 fun v H1 s1 r1 => ?_
  refine ⟨P, ρ, ρ', d, r1, sr.er.same s1, e3, fun σ' er' hl hj => ?_⟩
  have sr1 := (sr.same s1).assign hF er' hj (ht d ρ ρ' e3).2
  exact k P σ' H1 sr1 ((Frm.of_same s1).trans (Frm.assign hF hj (ht d ρ ρ' e3).2))
/-- x = e where x is the frame's own, e new -/
theorem Rep.inner {P : Addr → Prop} {H : Hp} {a : Addr} : ∀ (d : D) (v : V) (e : D), sizeOf d < sizeOf e → Rep P H e (.ref a) → (H a).isSome = true → (∀ vs, H a ≠ some (.tup vs)) → Rep P H d v → Rep (fun b => P b ∧ b ≠ a) H d v := by
  intro d v e hlt he ha ht h
  have key : ∀ (d' : D) (b : Addr), Rep P H d' (.ref b) → sizeOf d' < sizeOf e → b ≠ a := fun d' b hd hl q => by
    subst q
    have := Rep.inj d' e (.ref b) hd he
    rw [this] at hl
    exact Nat.lt_irrefl _ hl
  have go : ∀ n, (∀ d v, sizeOf d ≤ n → sizeOf d < sizeOf e → Rep P H d v → Rep (fun b => P b ∧ b ≠ a) H d v) := by
    intro n
    induction n with
    | zero => intro d v h0; cases d <;> simp at h0 <;> omega
    | succ n ih =>
      have ihL : ∀ (ds : List D) (vs : List V), sizeOf ds ≤ n + 1 → sizeOf ds < sizeOf e → RepL P H ds vs → RepL (fun b => P b ∧ b ≠ a) H ds vs := by
        intro ds
        induction ds with
        | nil => intro vs _ _ h; simpa only [RepL] using h
        | cons d ds ihd =>
          intro vs h1 h2 h
          simp only [RepL] at h ⊢
          obtain ⟨w, r, rfl, r1, r2⟩ := h
          simp only [List.cons.sizeOf_spec] at h1 h2
          exact ⟨w, r, rfl, ih d w (by omega) (by omega) r1, ihd r (by omega) (by omega) r2⟩
      have ihK : ∀ (ds : List (D × D)) (vs : List (D × V)), sizeOf ds ≤ n + 1 → sizeOf ds < sizeOf e → RepKV P H ds vs → RepKV (fun b => P b ∧ b ≠ a) H ds vs := by
        intro ds
        induction ds with
        | nil => intro vs _ _ h; simpa only [RepKV] using h
        | cons d ds ihd =>
          intro vs h1 h2 h
          obtain ⟨k, d⟩ := d
          simp only [RepKV] at h ⊢
          obtain ⟨w, r, rfl, r1, r2⟩ := h
          simp only [List.cons.sizeOf_spec, Prod.mk.sizeOf_spec] at h1 h2
          exact ⟨w, r, rfl, ih d w (by omega) (by omega) r1, ihd r (by omega) (by omega) r2⟩
      intro d v h1 h2 h
      cases d with
      | non => simpa only [Rep] using h
      | bl => simpa only [Rep] using h
      | int => simpa only [Rep] using h
      | str => simpa only [Rep] using h
      | scr => simpa only [Rep] using h
      | fn => simp only [Rep] at h
      | tup ds =>
        simp only [Rep] at h ⊢
        obtain ⟨b, vs, rfl, q1, q2⟩ := h
        simp only [D.tup.sizeOf_spec] at h1 h2
        exact ⟨b, vs, rfl, q1, ihL ds vs (by omega) (by omega) q2⟩
      | lst ds =>
        have hh := h
        simp only [Rep] at h ⊢
        obtain ⟨b, vs, rfl, q0, q1, q2⟩ := h
        have := key _ b hh h2
        simp only [D.lst.sizeOf_spec] at h1 h2
        exact ⟨b, vs, rfl, ⟨q0, this⟩, q1, ihL ds vs (by omega) (by omega) q2⟩
      | dic t ds =>
        have hh := h
        simp only [Rep] at h ⊢
        obtain ⟨b, vs, rfl, q0, q1, q2⟩ := h
        have := key _ b hh h2
        simp only [D.dic.sizeOf_spec] at h1 h2
        exact ⟨b, vs, rfl, ⟨q0, this⟩, q1, ihK ds vs (by omega) (by omega) q2⟩
  exact go (sizeOf d) d v (Nat.le_refl _) hlt h
/-- a new list or dict: what lies within it lies elsewhere -/
theorem Rep.newTop {mg : Str → Option Value} {P : Addr → Prop} {H : Hp} {d : D} {a : Addr} (h : Rep P H d (.ref a)) (m : isMut d = true) : RepB mg (fun b => P b ∧ b ≠ a) H d (.ref a) := by
  cases d <;> simp only [isMut] at m <;> first | (cases m; done) | skip
  · rename_i xs
    have hh := h
    simp only [Rep] at h
    obtain ⟨b, vs, e, q0, q1, q2⟩ := h
    cases e
    simp only [RepB]
    refine ⟨a, vs, rfl, q1, ?_⟩
    have : ∀ (ds : List D) (ws : List V), sizeOf ds < sizeOf (D.lst xs) → RepL P H ds ws → RepL (fun b => P b ∧ b ≠ a) H ds ws := by
      intro ds
      induction ds with
      | nil => intro ws _ r; simpa only [RepL] using r
      | cons d ds ih =>
        intro ws hl r
        simp only [RepL] at r ⊢
        obtain ⟨w, rr, rfl, r1, r2⟩ := r
        simp only [List.cons.sizeOf_spec] at hl
        exact ⟨w, rr, rfl, Rep.inner d w _ (by omega) hh (by rw [q1]; rfl) (fun vs z => by rw [q1] at z; cases z) r1, ih rr (by omega) r2⟩
    exact this xs vs (by simp only [D.lst.sizeOf_spec]; omega) q2
  · rename_i t xs
    have hh := h
    simp only [Rep] at h
    obtain ⟨b, ps, e, q0, q1, q2⟩ := h
    cases e
    simp only [RepB]
    refine ⟨a, ps, rfl, q1, ?_⟩
    have nt : ∀ vs, H a ≠ some (.tup vs) := fun vs z => (q1.obj z).1 vs rfl
    have hs : (H a).isSome = true := Option.isSome_iff_ne_none.mpr q1.some
    have : ∀ (ds : List (D × D)) (ws : List (D × V)), sizeOf ds < sizeOf (D.dic t xs) → RepKV P H ds ws → RepKV (fun b => P b ∧ b ≠ a) H ds ws := by
      intro ds
      induction ds with
      | nil => intro ws _ r; simpa only [RepKV] using r
      | cons d ds ih =>
        intro ws hl r
        obtain ⟨k, d⟩ := d
        simp only [RepKV] at r ⊢
        obtain ⟨w, rr, rfl, r1, r2⟩ := r
        simp only [List.cons.sizeOf_spec, Prod.mk.sizeOf_spec] at hl
        exact ⟨w, rr, rfl, Rep.inner d w _ (by omega) hh hs nt r1, ih rr (by omega) r2⟩
    exact this xs ps (by simp only [D.dic.sizeOf_spec]; omega) q2
end
end RE
/-! RE10: own slots; if, for, while, return. -/
namespace RE
open PySem PySem.Spec PyProof.Rows L2

section
variable {X : Cx} {ks : Ks} {F : Fn} {pos : Pos}
/-- the allowed places shrink, the heap grows -/
theorem SR.shrink {mg : Str → Option Value} {Hb : Hp} {Pe P P' : Addr → Prop} {H H' : Hp} {σ : L2.St} {ρ : RE.Env} (h : SR mg Hb Pe P ks H σ ρ) (s : Same H H') (sub : ∀ a, P' a → P a) (ext : ∀ a, H a ≠ none → P a → P' a) (fr : Fre P' H') : SR mg Hb Pe P' ks H' σ ρ where
  freE := h.freE
  sub := fun a p => h.sub a (sub a p)
  fre := fr
  keep := h.keep.trans s
  er := h.er.mono s ext
  own := fun i d hk e m => by
    obtain ⟨a, h1, h2, h3, h4⟩ := (h.same s).own i d hk e m
    exact ⟨a, h1, h2, fun p => h3 (sub a p), h4⟩
  dist := h.dist
  bord := h.bord
  nofn := h.nofn
theorem Frm.shrink {P P' : Addr → Prop} {H H' : Hp} {σ : L2.St} {ρ : RE.Env} (s : Same H H') (sub : ∀ a, P' a → P a) (ext : ∀ a, H a ≠ none → P a → P' a) : Frm ks P H σ ρ P' H' σ ρ :=
  ⟨sub, ext, fun _ _ => ⟨rfl, rfl⟩, fun b o e _ => s b o e, fun c h z => h (s.free z)⟩
/-- what may be stored in a slot, and where it stands apart -/
def Fits (mg : Str → Option Value) (Hb : Hp) (P : Addr → Prop) (ks : Ks) (H : Hp) (σ : L2.St) (ρ : RE.Env) (i : Nat) (d : D) (v : V) : Prop :=
  match kd ks i with
  | .F => Rep P H d v
  | .M => (RepB mg P H d v ∧ ∀ g, d ≠ .fn g) ∧ (isMut d = true → ∃ a, v = .ref a ∧ Hb a = none ∧ ¬ P a ∧ Chg (H a) ∧ ∀ j e, j ≠ i → (kd ks j = .M ∨ kd ks j = .L) → ρ[j]? = some (some e) → isMut e = true → σ[j]? ≠ some (some (.ref a)))
  | _ => False
theorem SR.set {mg : Str → Option Value} {Hb : Hp} {Pe P : Addr → Prop} {H : Hp} {σ : L2.St} {ρ : RE.Env} {i : Nat} {d : D} {v : V} (h : SR mg Hb Pe P ks H σ ρ) (f : Fits mg Hb P ks H σ ρ i d v) : SR mg Hb Pe P ks H (σ.set i (some v)) (ρ.set i (some d)) := by
  unfold Fits at f
  cases hk : kd ks i with
  | F =>
    rw [hk] at f
    exact h.assign (is := [i]) (by simp [hk]) (h.er.set (by rw [hk]; exact f)) (fun j hj => List.getElem?_set_ne (by simpa [eq_comm] using hj)) fun j hj => List.getElem?_set_ne (by simpa [eq_comm] using hj)
  | L => rw [hk] at f; exact f.elim
  | B => rw [hk] at f; exact f.elim
  | M =>
    rw [hk] at f
    obtain ⟨⟨r, nf⟩, fm⟩ := f
    have at_i : ∀ {e : D}, (ρ.set i (some d))[i]? = some (some e) → e = d ∧ i < σ.length := fun {e} q => by
      have hi : i < ρ.length := by
        rw [← List.length_set (i := i) (a := some d)]
        exact (List.getElem?_eq_some_iff.mp q).1
      rw [List.getElem?_set_self hi] at q
      cases q
      exact ⟨rfl, by rw [← h.er.1]; exact hi⟩
    have ne_i : ∀ {j : Nat} {e : D}, j ≠ i → (ρ.set i (some d))[j]? = some (some e) → ρ[j]? = some (some e) := fun {j e} hj q => by rwa [List.getElem?_set_ne (Ne.symm hj)] at q
    refine ⟨h.freE, h.sub, h.fre, h.keep, h.er.set (by rw [hk]; exact r), fun j e hj q m => ?_, fun j k e e' a jk hj hk' q q' m m' s s' => ?_, fun j e a hj q m s => ?_, fun j g hj q => ?_⟩
    · by_cases c : j = i
      · subst c
        obtain ⟨rfl, hi⟩ := at_i q
        obtain ⟨a, rfl, h1, h2, h3, _⟩ := fm m
        exact ⟨a, List.getElem?_set_self hi, h1, h2, fun _ => h3⟩
      · obtain ⟨a, h1, h2⟩ := h.own j e hj (ne_i c q) m
        exact ⟨a, by rw [List.getElem?_set_ne (Ne.symm c)]; exact h1, h2⟩
    · by_cases c : j = i
      · subst c
        obtain ⟨rfl, hi⟩ := at_i q
        obtain ⟨b, rfl, _, _, _, ap⟩ := fm m
        rw [List.getElem?_set_self hi] at s
        cases s
        have c2 : k ≠ j := Ne.symm jk
        rw [List.getElem?_set_ne (Ne.symm c2)] at s'
        exact ap k e' c2 hk' (ne_i c2 q') m' s'
      · by_cases c2 : k = i
        · subst c2
          obtain ⟨rfl, hi⟩ := at_i q'
          obtain ⟨b, rfl, _, _, _, ap⟩ := fm m'
          rw [List.getElem?_set_self hi] at s'
          cases s'
          rw [List.getElem?_set_ne (Ne.symm c)] at s
          exact ap j e c hj (ne_i c q) m s
        · rw [List.getElem?_set_ne (Ne.symm c)] at s
          rw [List.getElem?_set_ne (Ne.symm c2)] at s'
          exact h.dist j k e e' a jk hj hk' (ne_i c q) (ne_i c2 q') m m' s s'
    · have c : j ≠ i := fun z => by rw [z, hk] at hj; cases hj
      rw [List.getElem?_set_ne (Ne.symm c)] at s
      exact h.bord j e a hj (ne_i c q) m s
    · by_cases c : j = i
      · subst c
        obtain ⟨e, _⟩ := at_i q
        exact nf g e.symm
      · exact h.nofn j g hj (ne_i c q)
theorem Frm.set {P : Addr → Prop} {H : Hp} {σ : L2.St} {ρ : RE.Env} {i : Nat} {d : D} {v : V} (hi : kd ks i = .F ∨ kd ks i = .M) : Frm ks P H σ ρ P H (σ.set i (some v)) (ρ.set i (some d)) :=
  ⟨fun _ p => p, fun _ _ p => p, fun j hj => have c : i ≠ j := fun z => by subst z; rcases hi with z | z <;> rw [z] at hj <;> rcases hj with y | y <;> cases y
    ⟨List.getElem?_set_ne c, List.getElem?_set_ne c⟩, fun _ _ e _ => e, fun _ h => h⟩
/-- a place where nothing stood is no slot's -/
theorem SR.apart {mg : Str → Option Value} {Hb : Hp} {Pe P : Addr → Prop} {H : Hp} {σ : L2.St} {ρ : RE.Env} (h : SR mg Hb Pe P ks H σ ρ) {a : Addr} (n : H a = none) : ∀ j e, (kd ks j = .M ∨ kd ks j = .L) → ρ[j]? = some (some e) → isMut e = true → σ[j]? ≠ some (some (.ref a)) := fun j e hj q m s => by
  obtain ⟨v, e1, r⟩ := h.er.2 j e q
  rw [s] at e1; cases e1
  have rb := r.toB
  cases e <;> simp only [isMut] at m <;> first | (cases m; done) | skip
  · obtain ⟨b, vs, e, hb, _⟩ := rb.lst; cases e; rw [n] at hb; cases hb
  · obtain ⟨b, ps, e, hb, _⟩ := rb.dic; cases e; exact hb.some n
/-- its list or dict is not locked -/
def Unl (H : Hp) (d : D) (v : V) : Prop := isMut d = true → ∀ a, v = .ref a → Chg (H a)
/-- e gives f: a new object, not locked -/
structure EvM (X : Cx) (ks : Ks) (F : Fn) (e : Expr) (f : SE) : Prop where
  ex : ∃ t : TE, PE X e t ∧ ∀ σ H, Cn X.mg H ks F f σ (fun P d v H' => Rep P H' d v ∧ TopNew H d v ∧ Unl H' d v) t
def cND (f : SE) : SE := fun F ρ => (f F ρ).bind fun d => if isDic d then none else some d
theorem EvN.toM {e : Expr} {f : SE} (h : EvN X ks F e f) : EvM X ks F e (cND f) := by
  obtain ⟨t, p, q⟩ := h.ex
  refine ⟨t, p, fun σ H P ρ Q d fr er ev k => ?_⟩
  obtain ⟨x, e1, e2⟩ := Option.bind_eq_some_iff.mp ev
  split at e2
  · cases e2
  · rename_i hd
    cases e2
    refine q σ H P ρ Q d fr er e1 fun v H' s r => k v H' s ⟨r.1, r.2, fun hm a ea => ?_⟩
    cases d <;> simp only [isMut] at hm <;> first | (cases hm; done) | skip
    · subst ea
      have r1 := r.1
      simp only [Rep] at r1
      obtain ⟨b, vs, e, _, h1, _⟩ := r1
      cases e
      rw [h1]; trivial
    · exact absurd rfl hd
/-- a new value for an own slot, told apart: the places allowed behind it -/
theorem new_fits {mg : Str → Option Value} {Hb : Hp} {Pe P : Addr → Prop} {H H' : Hp} {σ : L2.St} {ρ : RE.Env} {i : Nat} {d : D} {v : V} (h : SR mg Hb Pe P ks H σ ρ) (hk : kd ks i = .M) (s : Same H H') (r : Rep P H' d v) (tn : TopNew H d v) (un : Unl H' d v) :
    ∃ P', (∀ a, P' a → P a) ∧ (∀ a, H a ≠ none → P a → P' a) ∧ Fre P' H' ∧ Fits mg Hb P' ks H' σ ρ i d v ∧ ∀ a, v = .ref a → isMut d = true → ¬ P' a := by
  cases hm : isMut d with
  | false =>
    refine ⟨P, fun _ p => p, fun _ _ p => p, h.fre.same s, ?_, fun a _ z => by cases z⟩
    unfold Fits
    rw [hk]
    exact ⟨⟨r.toB, fun g e => by subst e; simp only [Rep] at r⟩, fun z => by rw [hm] at z; cases z⟩
  | true =>
    obtain ⟨a, rfl, na⟩ : ∃ a, v = .ref a ∧ H a = none := by
      cases d <;> simp only [isMut] at hm <;> first | (cases hm; done) | skip
      · simp only [Rep] at r; obtain ⟨a, vs, rfl, _⟩ := r
        exact ⟨a, rfl, tn a rfl⟩
      · simp only [Rep] at r; obtain ⟨a, ps, rfl, _⟩ := r
        exact ⟨a, rfl, tn a rfl⟩
    have ch := un hm a rfl
    refine ⟨fun b => P b ∧ b ≠ a, fun b p => p.1, fun b hb p => ⟨p, fun z => hb (z ▸ na)⟩, fre_minus (h.fre.same s) (fun z => by rw [z] at ch; exact ch), ?_, fun b eb _ p => p.2 (by cases eb; rfl)⟩
    unfold Fits
    rw [hk]
    exact ⟨⟨r.newTop hm, fun g e => by subst e; cases hm⟩, fun _ => ⟨a, rfl, h.keep.free na, fun z => z.2 rfl, ch, fun j e _ hj q m => h.apart na j e hj q m⟩⟩
def sSetM (i : Nat) (f : SE) : SS := fun F ρ => (f F ρ).map fun d => .nx (ρ.set i (some d))
theorem evS_setM {i : Nat} {x : Str} {e : Expr} {f : SE} {pos' : Pos} (hN : X.N.Nodup) (hi : X.N[i]? = some x) (hx : Loc X.env.scope x) (hk : kd ks i = .M) (he : EvM X ks F e f) (hs : swapsWith e (some (.Name x pos')) pos.line X.env = pure false) (hf : X.fn x = true ∨ X.env.scope.names.lookup x = some .local) :
    EvS X ks F (.Assign [.Name x pos'] e pos) (sSetM i f) := by
  obtain ⟨t, p, q⟩ := he.ex
  refine ⟨tAsg t (gName i), ps_set hN hi hx p hs hf, fun Hb Pe P H σ ρ D r sr ev k => ?_⟩
  obtain ⟨d, e1, rfl⟩ := Option.map_eq_some_iff.mp ev
  refine q σ H P ρ _ d sr.fre sr.er e1 fun v H1 s1 ⟨r1, tn, un⟩ => ?_
  obtain ⟨P', sub, ext, fr', ft, _⟩ := new_fits sr hk s1 r1 tn un
  exact k P' _ H1 ((sr.shrink s1 sub ext fr').set ft) ((Frm.shrink s1 sub ext).trans (Frm.set (.inr hk)))
/-- x = x if c else e, where x is the frame's own -/
theorem set_here {α : Type} {l : List α} {i : Nat} {x : α} (h : l[i]? = some x) : l.set i x = l := by
  apply List.ext_getElem?
  intro j
  by_cases c : i = j
  · subst c
    rw [List.getElem?_set_self (List.getElem?_eq_some_iff.mp h).1, h]
  · rw [List.getElem?_set_ne c]
def sSetIf (i : Nat) (c : SB) (f : SE) : SS := fun F ρ => (c F ρ).bind fun b => if b then (cV i F ρ).map fun _ => .nx ρ else (f F ρ).map fun d => .nx (ρ.set i (some d))
theorem evS_setIf {i : Nat} {x : Str} {c e : Expr} {g : SB} {f : SE} {pos' pos2 pos3 : Pos} (hN : X.N.Nodup) (hi : X.N[i]? = some x) (hx : Loc X.env.scope x) (hv : Vis X.env.scope x) (hd : (x == ("__debug__" : Str)) = false) (hcd : (x == ("__classdict__" : Str)) = false) (hk : kd ks i = .M) (hc : EvT X ks F c g) (he : EvM X ks F e f) (hf : X.fn x = true ∨ X.env.scope.names.lookup x = some .local) :
    EvS X ks F (.Assign [.Name x pos'] (.IfExp c (.Name x pos2) e pos3) pos) (sSetIf i g f) := by
  obtain ⟨tc, pc, qc⟩ := hc.ex
  obtain ⟨t, p, q⟩ := he.ex
  refine ⟨tAsg (tIf tc (tVar i) t) (gName i), ps_set hN hi hx (pe_ifExp pc (pe_var hi hv hd hcd) p) rfl hf, fun Hb Pe P H σ ρ D r sr ev k => ?_⟩
  obtain ⟨b, e1, e2⟩ := Option.bind_eq_some_iff.mp ev
  refine qc σ H P ρ _ b sr.fre sr.er e1 fun H1 s1 => ?_
  cases b with
  | true =>
    rw [if_pos rfl] at e2
    refine iteT ?_
    obtain ⟨d, e3, rfl⟩ := Option.map_eq_some_iff.mp e2
    obtain ⟨v, e4, _⟩ := (sr.same s1).er.2 i d (cV_some e3)
    refine ⟨v, e4, ?_⟩
    show D.nx (σ.set i (some v)) H1
    rw [set_here e4]
    exact k P σ H1 (sr.same s1) (Frm.of_same s1)
  | false =>
    rw [if_neg Bool.false_ne_true] at e2
    refine iteF ?_
    obtain ⟨d, e3, rfl⟩ := Option.map_eq_some_iff.mp e2
    refine q σ H1 P ρ _ d (sr.fre.same s1) (sr.er.same s1) e3 fun v H2 s2 ⟨r1, tn, un⟩ => ?_
    obtain ⟨P', sub, ext, fr', ft, _⟩ := new_fits (sr.same s1) hk s2 r1 tn un
    exact k P' _ H2 (((sr.same s1).shrink s2 sub ext fr').set ft) ((Frm.of_same s1).trans ((Frm.shrink s2 sub ext).trans (Frm.set (.inr hk))))

/-! ### own lists and dicts are changed -/
theorem RepB.chg {mg : Str → Option Value} {P : Addr → Prop} {H : Hp} {a : Addr} {o : HO} (c : Chg (H a)) (np : ¬ P a) {d : D} {v : V} (ne : isMut d = true → v ≠ .ref a) (h : RepB mg P H d v) : RepB mg P (upd H a o) d v := by
  cases d <;> simp only [RepB] at h ⊢ <;> first | exact h | exact Rep.chg c np _ _ h | skip
  · obtain ⟨b, vs, rfl, h1, h2⟩ := h
    have nb : b ≠ a := fun z => ne rfl (by rw [z])
    exact ⟨b, vs, rfl, by rw [upd_ne nb]; exact h1, RepL.chg c np _ _ h2⟩
  · obtain ⟨b, ps, rfl, h1, h2⟩ := h
    have nb : b ≠ a := fun z => ne rfl (by rw [z])
    exact ⟨b, ps, rfl, h1.upd_ne nb, RepKV.chg c np _ _ h2⟩
theorem at_set {ρ : RE.Env} {i j : Nat} {d d' e : D} (h : ρ[i]? = some (some d)) (m : isMut d = true) (q : (ρ.set i (some d'))[j]? = some (some e)) (m' : isMut e = true) : ∃ e', ρ[j]? = some (some e') ∧ isMut e' = true := by
  by_cases c : i = j
  · subst c; exact ⟨d, h, m⟩
  · rw [List.getElem?_set_ne c] at q; exact ⟨e, q, m'⟩
theorem SR.mut {mg : Str → Option Value} {Hb : Hp} {Pe P : Addr → Prop} {H : Hp} {σ : L2.St} {ρ : RE.Env} {i : Nat} {d d' : D} {a : Addr} {o : HO} (h : SR mg Hb Pe P ks H σ ρ) (hk : kd ks i = .M) (e : ρ[i]? = some (some d)) (m : isMut d = true) (s : σ[i]? = some (some (.ref a))) (ch : Chg (some o)) (r : RepB mg P (upd H a o) d' (.ref a)) (m2 : isMut d' = true) :
    SR mg Hb Pe P ks (upd H a o) σ (ρ.set i (some d')) ∧ Frm ks P H σ ρ P (upd H a o) σ (ρ.set i (some d')) := by
  obtain ⟨b, s', hb, np, hc⟩ := h.own i d (.inl hk) e m
  rw [s] at s'; cases s'
  have c := hc hk
  have top : ∀ j x, i ≠ j → ρ[j]? = some (some x) → isMut x = true → kd ks j ≠ .F → σ[j]? ≠ some (some (.ref a)) := fun j x ij q mx kj z => by
    cases kj2 : kd ks j with
    | F => exact kj kj2
    | M => exact h.dist i j d x a ij (.inl hk) (.inl kj2) e q m mx s z
    | L => exact h.dist i j d x a ij (.inl hk) (.inr kj2) e q m mx s z
    | B => exact h.bord j x a kj2 q mx z hb
  have some_a : (upd H a o) a ≠ none := by rw [upd_same]; simp
  constructor
  · refine ⟨h.freE, h.sub, fun b z => h.fre b ?_, fun b x q => ?_, ⟨by rw [List.length_set]; exact h.er.1, fun j x q => ?_⟩, fun j x kj q mx => ?_, fun j l x y b jl kj kl q q' mx my z z' => ?_, fun j x b kj q mx z => ?_, fun j g kj q => ?_⟩
    · have nb : b ≠ a := fun y => some_a (y ▸ z)
      rwa [upd_ne nb] at z
    · have nb : b ≠ a := fun y => by rw [y, hb] at q; cases q
      rw [upd_ne nb]; exact h.keep b x q
    · by_cases ij : i = j
      · subst ij
        have hi : i < ρ.length := (List.getElem?_eq_some_iff.mp e).1
        rw [List.getElem?_set_self hi] at q
        cases q
        exact ⟨_, s, by rw [hk]; exact r⟩
      · rw [List.getElem?_set_ne ij] at q
        obtain ⟨v, e1, r1⟩ := h.er.2 j x q
        refine ⟨v, e1, ?_⟩
        cases kj : kd ks j with
        | F => rw [kj] at r1; exact Rep.chg c np _ _ r1
        | M => rw [kj] at r1; exact RepB.chg c np (fun mx z => top j x ij q mx (by rw [kj]; nofun) (by rw [e1, z])) r1
        | L => rw [kj] at r1; exact RepB.chg c np (fun mx z => top j x ij q mx (by rw [kj]; nofun) (by rw [e1, z])) r1
        | B => rw [kj] at r1; exact RepB.chg c np (fun mx z => top j x ij q mx (by rw [kj]; nofun) (by rw [e1, z])) r1
    · obtain ⟨x', q', mx'⟩ := at_set e m q mx
      obtain ⟨b, z1, z2, z3, z4⟩ := h.own j x' kj q' mx'
      refine ⟨b, z1, z2, z3, fun kj2 => ?_⟩
      by_cases ba : b = a
      · rw [ba, upd_same]; exact ch
      · rw [upd_ne ba]; exact z4 kj2
    · obtain ⟨x', p1, p2⟩ := at_set e m q mx
      obtain ⟨y', p3, p4⟩ := at_set e m q' my
      exact h.dist j l x' y' b jl kj kl p1 p3 p2 p4 z z'
    · obtain ⟨x', p1, p2⟩ := at_set e m q mx
      exact h.bord j x' b kj p1 p2 z
    · by_cases ij : i = j
      · subst ij
        have hi : i < ρ.length := (List.getElem?_eq_some_iff.mp e).1
        rw [List.getElem?_set_self hi] at q
        cases q; cases m2
      · rw [List.getElem?_set_ne ij] at q
        exact h.nofn j g kj q
  · refine ⟨fun _ p => p, fun _ _ p => p, fun j hj => ⟨rfl, List.getElem?_set_ne fun z => by subst z; rw [hk] at hj; rcases hj with y | y <;> cases y⟩, fun b x q hx => ?_, fun b q => ?_⟩
    · have nb : b ≠ a := fun y => by
        subst y
        rcases hx with (p | ⟨j, x', kj, z1, z2, z3⟩) | hx
        · exact np p
        · exact top j x' (fun y => by subst y; rw [hk] at kj; rcases kj with y | y <;> cases y) z2 z3 (by rcases kj with y | y <;> rw [y] <;> nofun) z1
        · rw [q] at c; exact hx c
      rw [upd_ne nb]; exact q
    · by_cases ba : b = a
      · rw [ba]; exact some_a
      · rw [upd_ne ba]; exact q
theorem RepL.snoc {P : Addr → Prop} {H : Hp} {d : D} {v : V} (r : Rep P H d v) : ∀ {ds : List D} {vs : List V}, RepL P H ds vs → RepL P H (ds ++ [d]) (vs ++ [v])
  | [], vs, h => by
    simp only [RepL] at h
    subst h
    simp only [List.nil_append, RepL]
    exact ⟨v, [], rfl, r, rfl⟩
  | d1 :: ds, vs, h => by
    simp only [RepL] at h
    obtain ⟨w, rr, rfl, h1, h2⟩ := h
    simp only [List.cons_append, RepL]
    exact ⟨w, rr ++ [v], rfl, h1, RepL.snoc r h2⟩
def sApp (i : Nat) (f : SE) : SS := fun F ρ => (f F ρ).bind fun d => match cV i F ρ with
  | some (.lst xs) => if fits (xs.length + 1) then some (.nx (ρ.set i (some (.lst (xs ++ [d]))))) else none
  | _ => none
theorem evS_app {i : Nat} {x : Str} {e : Expr} {f : SE} {xp ap cp : Pos} (hi : X.N[i]? = some x) (hv : Vis X.env.scope x) (hd : (x == ("__debug__" : Str)) = false) (hcd : (x == ("__classdict__" : Str)) = false) (hk : kd ks i = .M) (hn : noStar e = true) (he : EvE X ks F e f)
    (hbase : attributeBase (.Name x xp) "append" X.env (eval (.Name x xp) X.env) = eval (.Name x xp) X.env) (hline : (ap.endLine == cp.line) = true) :
    EvS X ks F (.Expr (.Call (.Attribute (.Name x xp) "append" ap) [e] [] cp) pos) (sApp i f) := by
  obtain ⟨t, p, q⟩ := he.ex
  refine ⟨tDrop (tBM X.K "list" rAppend (tVar i) (tCons t tNil)), ps_expr (pe_bm PySem.F.plainAttrs_list PySem.F.slot_list_append PySem.F.type_list_append mt_append (pe_var hi hv hd hcd) (pa_cons p pa_nil (starEach_cons (noStar_ne hn))) hbase
    (by rw [starEach_cons (noStar_ne hn)]; rfl) hline (starEach_cons (noStar_ne hn)) rfl) rfl, fun Hb Pe P H σ ρ D r sr ev k => ?_⟩
  obtain ⟨d, e1, e2⟩ := Option.bind_eq_some_iff.mp ev
  split at e2
  · rename_i xs e3
    split at e2
    · rename_i hf
      cases e2
      have e4 := cV_some e3
      obtain ⟨v, e5, r5⟩ := sr.er.2 i _ e4
      have r5' := r5
      rw [hk] at r5'
      simp only [RepK, RepB] at r5'
      obtain ⟨a, vs, rfl, h1, h2⟩ := r5'
      refine ⟨.ref a, e5, .inl ⟨rfl, vs, .inl (.inl h1)⟩, ?_⟩
      refine q σ H P ρ _ d sr.fre sr.er e1 fun w H1 s1 r1 => ?_
      have hl := h2.len
      have hf := of_decide_eq_true hf
      refine ⟨a, vs, w, rfl, rfl, s1 _ _ h1, by omega, ?_⟩
      have sr1 := sr.same s1
      obtain ⟨b, q1, q2, q3, q4⟩ := sr1.own i _ (.inl hk) e4 rfl
      rw [e5] at q1; cases q1
      obtain ⟨sr2, fm⟩ := sr1.mut (d' := .lst (xs ++ [d])) (o := .lst (vs ++ [w])) hk e4 rfl e5 trivial (by
        simp only [RepB]
        exact ⟨a, _, rfl, upd_same, RepL.snoc (Rep.chg (q4 hk) q3 _ _ r1) (RepL.chg (q4 hk) q3 _ _ (h2.same s1))⟩) rfl
      exact k P σ _ sr2 ((Frm.of_same s1).trans fm)
    · cases e2
  · cases e2
end
end RE
/-! RE11: stores, if, for, while, return. -/
namespace RE
open PySem PySem.Spec PyProof.Rows L2
section
variable {X : Cx} {ks : Ks} {F : Fn} {pos : Pos}

/-! ### x = [..] on one line -/
theorem evS_swF {i : Nat} {x : Str} {e : Expr} {f : SE} {py : Pos} (hi : X.N[i]? = some x) (hl : X.env.scope.names.lookup x = some .local) (hk : kd ks i = .F) (hs : swapsWith e (some (.Name x py)) pos.line X.env = pure true) (he : EvNS X ks F e f) : EvS X ks F (.Assign [.Name x py] e pos) (sAsg f (gN i)) := by
  obtain ⟨t, ⟨_, p⟩, q⟩ := he.ex
  refine ⟨tAsg t (gName i), p i x py pos hi hl hs, fun Hb Pe P H σ ρ D r sr ev k => ?_⟩
  obtain ⟨d, e1, e2⟩ := Option.bind_eq_some_iff.mp ev
  obtain ⟨ρ', e3, rfl⟩ := Option.map_eq_some_iff.mp e2
  cases e3
  refine q σ H P ρ _ d sr.fre sr.er e1 fun v H1 s1 r1 => ?_
  exact k P _ H1 ((sr.same s1).set (by unfold Fits; rw [hk]; exact r1.1)) ((Frm.of_same s1).trans (Frm.set (.inl hk)))
theorem unl_of {P : Addr → Prop} {H : Hp} {d : D} {v : V} (r : Rep P H d v) (h : isDic d = false) : Unl H d v := fun hm a ea => by
  cases d <;> simp only [isMut] at hm <;> first | (cases hm; done) | skip
  · subst ea
    simp only [Rep] at r
    obtain ⟨b, vs, e, _, h1, _⟩ := r
    cases e
    rw [h1]; trivial
  · cases h
theorem evS_swM {i : Nat} {x : Str} {e : Expr} {f : SE} {py : Pos} (hi : X.N[i]? = some x) (hl : X.env.scope.names.lookup x = some .local) (hk : kd ks i = .M) (hs : swapsWith e (some (.Name x py)) pos.line X.env = pure true) (he : EvNS X ks F e f) : EvS X ks F (.Assign [.Name x py] e pos) (sSetM i (cND f)) := by
  obtain ⟨t, ⟨_, p⟩, q⟩ := he.ex
  refine ⟨tAsg t (gName i), p i x py pos hi hl hs, fun Hb Pe P H σ ρ D r sr ev k => ?_⟩
  obtain ⟨d, e0, rfl⟩ := Option.map_eq_some_iff.mp ev
  obtain ⟨d', e1, e2⟩ := Option.bind_eq_some_iff.mp e0
  split at e2
  · cases e2
  · rename_i hd
    cases e2
    refine q σ H P ρ _ d sr.fre sr.er e1 fun v H1 s1 ⟨r1, tn⟩ => ?_
    obtain ⟨P', sub, ext, fr', ft, _⟩ := new_fits sr hk s1 r1 tn (unl_of r1 (by simpa using hd))
    exact k P' _ H1 ((sr.shrink s1 sub ext fr').set ft) ((Frm.shrink s1 sub ext).trans (Frm.set (.inr hk)))

/-! ### x[i] = e -/
theorem RepL.upd {P : Addr → Prop} {H : Hp} {d : D} {v : V} (r : Rep P H d v) : ∀ {ds : List D} {vs : List V} (m : Nat), RepL P H ds vs → RepL P H (ds.set m d) (vs.set m v)
  | [], _, m, h => by simp only [RepL] at h; subst h; simp [RepL]
  | e :: ds, _, 0, h => by
    simp only [RepL] at h
    obtain ⟨w, rr, rfl, h1, h2⟩ := h
    simp only [List.set_cons_zero, RepL]
    exact ⟨v, rr, rfl, r, h2⟩
  | e :: ds, _, m + 1, h => by
    simp only [RepL] at h
    obtain ⟨w, rr, rfl, h1, h2⟩ := h
    simp only [List.set_cons_succ, RepL]
    exact ⟨w, _, rfl, h1, RepL.upd r m h2⟩
def putD (o k v : D) : Option D := match o with
  | .lst xs => match k with
    | .int n => (ixN xs.length n).map fun m => .lst (xs.set m v)
    | _ => none
  | .dic t kvs => if fits (kvs.length + 1) then (dput t kvs k v).map fun q => .dic t q else none
  | _ => none
/-- a store by values: what stands behind it -/
theorem putD_ok {mg : Str → Option Value} {P : Addr → Prop} {H : Hp} {o k v d : D} {a : Addr} {w z : V} (c : Chg (H a)) (np : ¬ P a) (ro : RepB mg P H o (.ref a)) (rk : RepB mg P H k w) (rv : Rep P H v z) (e : putD o k v = some d) :
    isMut o = true ∧ ∃ u, Chg (some u) ∧ (rSetL (.ref a) w z H (fun H' => H' = upd H a u) ∨ rSetD (.ref a) w z H fun H' => H' = upd H a u) ∧ RepB mg P (upd H a u) d (.ref a) := by
  cases o <;> simp only [putD] at e <;> first | (cases e; done) | skip
  · cases k <;> simp only at e <;> first | (cases e; done) | skip
    obtain ⟨m, e1, rfl⟩ := Option.map_eq_some_iff.mp e
    simp only [RepB] at ro rk
    obtain ⟨b, vs, eb, h1, h2⟩ := ro
    cases eb
    rename_i xs n
    refine ⟨rfl, .lst (vs.set m z), trivial, .inl ⟨a, vs, n, m, rfl, rk, h1, by rw [h2.len]; exact e1, rfl⟩, ?_⟩
    simp only [RepB]
    exact ⟨a, _, rfl, upd_same, RepL.chg c np _ _ (RepL.upd rv m h2)⟩
  · rename_i t kvs
    split at e
    · rename_i hf
      have hf := of_decide_eq_true hf
      obtain ⟨q, e1, rfl⟩ := Option.map_eq_some_iff.mp e
      obtain ⟨b, ps, eb, hd, hr⟩ := ro.dic
      cases eb
      cases t with
      | false =>
        obtain ⟨ks, rd, rfl⟩ := hd
        have hl := hr.len
        rw [List.length_map] at hl
        rcases rd with rd | ⟨ob, rd⟩
        · simp only [dput] at e1
          obtain ⟨q', e2, rfl⟩ := Option.map_eq_some_iff.mp e1
          have := keyA_some e2
          subst this
          have ew := rk.key
          refine ⟨rfl, .dK (putK ks q' z), trivial, .inr ⟨a, _, rfl, .inl ⟨ks, q', rd, ew, by omega, rfl⟩, rfl⟩, ?_⟩
          simp only [RepB]
          exact ⟨a, _, rfl, ⟨_, .inl upd_same, rfl⟩, RepKV.chg c np _ _ (kv_put keyA keyD keyA_keyD q' rv hr)⟩
        · rw [rd] at c; exact c.elim
      | true =>
        obtain ⟨ks, rd, rfl⟩ := hd
        have hl := hr.len
        rw [List.length_map] at hl
        rcases rd with rd | ⟨ob, rd⟩
        · simp only [dput] at e1
          obtain ⟨q', e2, rfl⟩ := Option.map_eq_some_iff.mp e1
          have := keyT_some e2
          subst this
          obtain ⟨b, vs, rfl, hb, hvs⟩ := rk.tup
          have := hvs.keys
          subst this
          refine ⟨rfl, .dT (putK ks q' z), trivial, .inr ⟨a, _, rfl, .inr ⟨ks, q', b, rd, rfl, hb, by omega, rfl⟩, rfl⟩, ?_⟩
          simp only [RepB]
          exact ⟨a, _, rfl, ⟨_, .inl upd_same, rfl⟩, RepKV.chg c np _ _ (kv_put keyT (fun ks => .tup (ks.map keyD)) (fun ks => keysA_map ks) q' rv hr)⟩
        · rw [rd] at c; exact c.elim
    · cases e
theorem putD_mut {o k v d : D} (e : putD o k v = some d) : isMut d = true := by
  cases o <;> simp only [putD] at e <;> first | (cases e; done) | skip
  · cases k <;> simp only at e <;> first | (cases e; done) | skip
    obtain ⟨m, e1, rfl⟩ := Option.map_eq_some_iff.mp e
    rfl
  · split at e
    · obtain ⟨q, e1, rfl⟩ := Option.map_eq_some_iff.mp e
      rfl
    · cases e
def plainKey : Expr → Bool
  | .Slice _ _ _ _ => false
  | _ => true
theorem assign_sub {o i : Expr} {p : Pos} (h : plainKey i = true) (env : PySem.Env) : ∀ v, assign (.Subscript o i p) env v = (do
      let ov ← holding [v] (eval o env)
      let iv ← holding [v, ov] (eval i env)
      standAt p
      holding [v, ov, iv] (setItem ov iv v)
      release [v, ov, iv] []) := by
  intro v
  cases i <;> first | rfl | cases h
theorem PSet.or2 {t u : TSet} (h : PSet X t) (g : PSet X u) : PSet X (fun o i v H Q => t o i v H Q ∨ u o i v H Q) := fun pins s σ H o i v ov iv w Q I r1 r2 r3 q => q.elim (h pins s σ H o i v ov iv w Q I r1 r2 r3) (g pins s σ H o i v ov iv w Q I r1 r2 r3)
def sPut (j : Nat) (f g : SE) : SS := fun F ρ => (g F ρ).bind fun v => (cV j F ρ).bind fun o => (f F ρ).bind fun k => (putD o k v).map fun d => .nx (ρ.set j (some d))
theorem evS_put {j : Nat} {x : Str} {e i : Expr} {f g : SE} {xp sp : Pos} (hu : X.A.units + 1 < cLine) (hi : X.N[j]? = some x) (hv : Vis X.env.scope x) (hd : (x == ("__debug__" : Str)) = false) (hcd : (x == ("__classdict__" : Str)) = false) (hk : kd ks j = .M) (hp : plainKey i = true)
    (he : EvE X ks F e g) (hf : EvP X ks F i f) (hs : swapsWithSole [.Subscript (.Name x xp) i sp] e pos.line X.env = pure false) (hw : swappedStores [.Subscript (.Name x xp) i sp] e X.env = pure none) :
    EvS X ks F (.Assign [.Subscript (.Name x xp) i sp] e pos) (sPut j f g) := by
  obtain ⟨t, p, q⟩ := he.ex
  obtain ⟨u, p', q'⟩ := hf.ex
  refine ⟨tAsg t (gSub (tVar j) u fun o i v H Q => rSetL o i v H Q ∨ rSetD o i v H Q), ps_asg p (pg_sub (pe_var hi hv hd hcd) p' (PSet.or2 set_list (set_dict hu)) (assign_sub hp X.env)) hs hw rfl, fun Hb Pe P H σ ρ D r sr ev k => ?_⟩
  obtain ⟨v, e1, ev1⟩ := Option.bind_eq_some_iff.mp ev
  obtain ⟨o, e2, ev2⟩ := Option.bind_eq_some_iff.mp ev1
  obtain ⟨kk, e3, ev3⟩ := Option.bind_eq_some_iff.mp ev2
  obtain ⟨d, e4, rfl⟩ := Option.map_eq_some_iff.mp ev3
  refine q σ H P ρ _ v sr.fre sr.er e1 fun z H1 s1 r1 => ?_
  have sr1 := sr.same s1
  have e5 := cV_some e2
  obtain ⟨w, e6, r6⟩ := sr1.er.2 j o e5
  rw [hk] at r6
  have hm : isMut o = true := by
    cases o <;> simp only [putD] at e4 <;> first | (cases e4; done) | rfl
  obtain ⟨a, q1, q2, q3, q4⟩ := sr1.own j o (.inl hk) e5 hm
  rw [e6] at q1; cases q1
  refine ⟨.ref a, e6, ?_⟩
  refine q' σ H1 P ρ _ kk sr1.fre sr1.er e3 fun y H2 s2 r2 => ?_
  have sr2 := sr1.same s2
  obtain ⟨a', q1', q2', q3', q4'⟩ := sr2.own j o (.inl hk) e5 hm
  rw [e6] at q1'; cases q1'
  obtain ⟨_, uo, cu, hst, rr⟩ := putD_ok (q4' hk) q3' (RepB.same s2 r6) r2 (r1.same s2) e4
  obtain ⟨sr3, fm⟩ := sr2.mut hk e5 hm e6 cu rr (putD_mut e4)
  have fin : D.nx σ (upd H2 a uo) := k P σ _ sr3 (((Frm.of_same s1).trans (Frm.of_same s2)).trans fm)
  rcases hst with ⟨p, xs, n, m, z1, z2, z3, z4, z5⟩ | ⟨b, H', z1, z2, z3⟩
  · exact .inl ⟨p, xs, n, m, z1, z2, z3, z4, by rw [z5]; exact fin⟩
  · exact .inr ⟨b, H', z1, z2, by rw [z3]; exact fin⟩

/-! ### x = y.pop() -/
def sPop (j i : Nat) : SS := fun F ρ => match cV i F ρ with
  | some (.lst xs) => (xs.getLast?).map fun d => .nx ((ρ.set i (some (.lst xs.dropLast))).set j (some d))
  | _ => none
theorem RepL.last {P : Addr → Prop} {H : Hp} {ds : List D} {vs : List V} (h : RepL P H ds vs) {d : D} (e : ds.getLast? = some d) : ∃ v, vs[vs.length - 1]? = some v ∧ Rep P H d v := by
  rw [List.getLast?_eq_getElem?] at e
  obtain ⟨v, e1, r⟩ := h.get e
  rw [h.len]
  exact ⟨v, e1, r⟩
theorem RepL.dropLast {P : Addr → Prop} {H : Hp} {ds : List D} {vs : List V} (h : RepL P H ds vs) : RepL P H ds.dropLast vs.dropLast := by
  rw [List.dropLast_eq_take, List.dropLast_eq_take, h.len]
  exact h.take _
theorem evS_pop {i j : Nat} {x y : Str} {xp yp ap cp : Pos} (hN : X.N.Nodup) (hi : X.N[i]? = some x) (hv : Vis X.env.scope x) (hd : (x == ("__debug__" : Str)) = false) (hcd : (x == ("__classdict__" : Str)) = false) (hk : kd ks i = .M)
    (hj : X.N[j]? = some y) (hy : Loc X.env.scope y) (hkj : kd ks j = .F) (hf : X.fn y = true ∨ X.env.scope.names.lookup y = some .local)
    (hbase : attributeBase (.Name x xp) "pop" X.env (eval (.Name x xp) X.env) = eval (.Name x xp) X.env) (hline : (ap.endLine == cp.line) = true) :
    EvS X ks F (.Assign [.Name y yp] (.Call (.Attribute (.Name x xp) "pop" ap) [] [] cp) pos) (sPop j i) := by
  refine ⟨tAsg (tBM0 X.K "list" rPop (tVar i)) (gName j), ps_set hN hj hy (pe_bm0 PySem.F.plainAttrs_list PySem.F.slot_list_pop PySem.F.type_list_pop mt_pop (pe_var hi hv hd hcd) hbase hline) rfl hf, fun Hb Pe P H σ ρ D r sr ev k => ?_⟩
  simp only [sPop] at ev
  split at ev
  · rename_i xs e1
    obtain ⟨d, e2, rfl⟩ := Option.map_eq_some_iff.mp ev
    have e3 := cV_some e1
    obtain ⟨v, e4, r4⟩ := sr.er.2 i _ e3
    rw [hk] at r4
    simp only [RepK, RepB] at r4
    obtain ⟨a, vs, rfl, h1, h2⟩ := r4
    obtain ⟨w, e5, r5⟩ := h2.last e2
    obtain ⟨b, q1, q2, q3, q4⟩ := sr.own i _ (.inl hk) e3 rfl
    rw [e4] at q1; cases q1
    refine ⟨.ref a, e4, .inl ⟨rfl, vs, .inl (.inl h1)⟩, a, vs, w, rfl, rfl, h1, e5, ?_⟩
    obtain ⟨sr1, fm⟩ := sr.mut (d' := .lst xs.dropLast) (o := .lst vs.dropLast) hk e3 rfl e4 trivial (by
      simp only [RepB]
      exact ⟨a, _, rfl, upd_same, RepL.chg (q4 hk) q3 _ _ h2.dropLast⟩) rfl
    have r6 : Rep P (upd H a (.lst vs.dropLast)) d w := Rep.chg (q4 hk) q3 _ _ r5
    exact k P _ _ (sr1.set (i := j) (by unfold Fits; rw [hkj]; exact r6)) (fm.trans (Frm.set (.inl hkj)))
  · cases ev

/-! ### if, pass, return -/
def sIf (c : SB) (f g : SS) : SS := fun F ρ => (c F ρ).bind fun b => if b then f F ρ else g F ρ
theorem evS_if {c : Expr} {a b : List Stmt} {h : SB} {f g : SS} (hc : EvT X ks F c h) (ha : EvSs X ks F a f) (hb : EvSs X ks F b g) : EvS X ks F (.If c a b pos) (sIf h f g) := by
  obtain ⟨t, p, q⟩ := hc.ex
  obtain ⟨ta, pa, qa⟩ := ha.ex
  obtain ⟨tb, pb, qb⟩ := hb.ex
  refine ⟨tIfS t ta tb, ps_if p pa pb, fun Hb Pe P H σ ρ D r sr ev k => ?_⟩
  obtain ⟨b, e1, e2⟩ := Option.bind_eq_some_iff.mp ev
  refine q σ H P ρ _ b sr.fre sr.er e1 fun H1 s1 => ?_
  cases b with
  | true => rw [if_pos rfl] at e2 ⊢; exact qa Hb Pe P H1 σ ρ D r (sr.same s1) e2 (k.after (Frm.of_same s1))
  | false => rw [if_neg Bool.false_ne_true] at e2 ⊢; exact qb Hb Pe P H1 σ ρ D r (sr.same s1) e2 (k.after (Frm.of_same s1))
theorem evS_pass : EvS X ks F (.Pass pos) sNil := ⟨tNext, ps_pass, fun Hb Pe P H σ ρ D r sr e k => by cases e; exact k P σ H sr Frm.refl⟩
theorem evS_doc {x j pos'} : EvS X ks F (.Expr (.Constant (.str x) j pos) pos') sNil := ⟨tNext, ps_doc, fun Hb Pe P H σ ρ D r sr e k => by cases e; exact k P σ H sr Frm.refl⟩
/-- own slots are shared from now on -/
def frzK : Kind → Kind
  | .M => .F
  | .L => .F
  | k => k
def frz (ks : Ks) : Ks := ks.map frzK
theorem kd_frz {i : Nat} : kd (frz ks) i = frzK (kd ks i) := by
  unfold kd frz
  rw [List.getD_eq_getElem?_getD, List.getD_eq_getElem?_getD, List.getElem?_map]
  cases ks[i]? <;> rfl
theorem SR.frozen {mg : Str → Option Value} {Hb : Hp} {Pe P : Addr → Prop} {H : Hp} {σ : L2.St} {ρ : RE.Env} (h : SR mg Hb Pe P ks H σ ρ) : ER mg Pe (frz ks) H σ ρ := by
  refine ⟨h.er.1, fun i d e => ?_⟩
  obtain ⟨v, e1, r⟩ := h.er.2 i d e
  refine ⟨v, e1, ?_⟩
  rw [kd_frz]
  have own : kd ks i = .M ∨ kd ks i = .L → RepB mg P H d v → (∀ g, d ≠ .fn g) → Rep Pe H d v := fun hk rb nf => by
    cases hm : isMut d with
    | true =>
      obtain ⟨a, q1, q2, _⟩ := h.own i d hk e hm
      rw [e1] at q1; cases q1
      have pa := h.freE a q2
      cases d <;> simp only [isMut] at hm <;> first | (cases hm; done) | skip
      · simp only [RepB] at rb
        obtain ⟨b, vs, eb, h1, h2⟩ := rb
        cases eb
        simp only [Rep]
        exact ⟨a, vs, rfl, pa, h1, h2.weak h.sub⟩
      · simp only [RepB] at rb
        obtain ⟨b, ps, eb, h1, h2⟩ := rb
        cases eb
        simp only [Rep]
        exact ⟨a, ps, rfl, pa, h1, h2.weak h.sub⟩
    | false =>
      cases d <;> simp only [isMut] at hm <;> first | (cases hm; done) | skip
      all_goals first | exact absurd rfl (nf _) | (simp only [RepB] at rb; simp only [Rep]; exact rb) | (simp only [RepB] at rb; exact Rep.weak h.sub rb)
  cases hk : kd ks i with
  | F => rw [hk] at r; exact Rep.weak h.sub r
  | B => rw [hk] at r; exact RepB.weak h.sub r
  | M => rw [hk] at r; exact own (.inl hk) r fun g z => h.nofn i g (.inl hk) (by rw [e, z])
  | L => rw [hk] at r; exact own (.inr hk) r fun g z => h.nofn i g (.inr hk) (by rw [e, z])
def sRet (f : SE) : SS := fun F ρ => (f F ρ).map (.rt false)
theorem evS_ret {e : Expr} {f : SE} (h : EvE X (frz ks) F e f) : EvS X ks F (.Return (some e) pos) (sRet f) := by
  obtain ⟨t, p, q⟩ := h.ex
  refine ⟨tRet t, ps_ret p, fun Hb Pe P H σ ρ D r sr ev k => ?_⟩
  obtain ⟨d, e1, rfl⟩ := Option.map_eq_some_iff.mp ev
  exact q σ H Pe ρ _ d (fun a ha => sr.sub a (sr.fre a ha)) sr.frozen e1 fun v H' s r => k v H' (sr.keep.trans s) r fun z => nomatch z
def sRetN : SS := fun _ _ => some (.rt true .non)
theorem evS_retN : EvS X ks F (.Return none pos) sRetN := ⟨tRetN, ps_retN, fun Hb Pe P H σ ρ D r sr ev k => by cases ev; exact k _ H sr.keep (by simp only [Rep]) fun _ => trivial⟩
/-- e gives f, at a def's end: a new object where it is a list or dict -/
structure EvR (X : Cx) (ks : Ks) (F : Fn) (e : Expr) (f : SE) : Prop where
  ex : ∃ t : TE, PE X e t ∧ ∀ Hb Pe P H σ ρ (Q : VK) d, SR X.mg Hb Pe P ks H σ ρ → f F ρ = some d → (∀ v H', Same H H' → Rep Pe H' d v ∧ TopNew Hb d v → Q v H') → t σ H Q
theorem EvN.toR {e : Expr} {f : SE} (h : EvN X (frz ks) F e f) : EvR X ks F e f := by
  obtain ⟨t, p, q⟩ := h.ex
  exact ⟨t, p, fun Hb Pe P H σ ρ Q d sr ev k => q σ H Pe ρ _ d (fun a ha => sr.sub a (sr.fre a ha)) sr.frozen ev fun v H' s r => k v H' s ⟨r.1, r.2.back sr.keep⟩⟩
theorem evR_var {i : Nat} {x : Str} {pos : Pos} (hN : X.N[i]? = some x) (hv : Vis X.env.scope x) (hk : kd ks i = .M) (hd : (x == ("__debug__" : Str)) = false) (hcd : (x == ("__classdict__" : Str)) = false) : EvR X ks F (.Name x pos) (cV i) := by
  refine ⟨tVar i, pe_var hN hv hd hcd, fun Hb Pe P H σ ρ Q d sr ev k => ?_⟩
  have e1 := cV_some ev
  obtain ⟨v, e, r⟩ := sr.frozen.2 i d e1
  rw [kd_frz, hk] at r
  refine ⟨v, e, k v H (Same.refl H) ⟨r, ?_⟩⟩
  cases hm : isMut d with
  | false => cases d <;> simp only [isMut] at hm <;> first | trivial | (cases hm; done)
  | true =>
    obtain ⟨a, q1, q2, _⟩ := sr.own i d (.inl hk) e1 hm
    rw [e] at q1; cases q1
    cases d <;> simp only [isMut] at hm <;> first | (cases hm; done) | (simp only [TopNew]; intro b eb; cases eb; exact q2)
theorem evR_if {c a b : Expr} {h : SB} {f g : SE} {pos : Pos} (hc : EvT X (frz ks) F c h) (ha : EvR X ks F a f) (hb : EvR X ks F b g) : EvR X ks F (.IfExp c a b pos) (cIf h f g) := by
  obtain ⟨t, p, q⟩ := hc.ex
  obtain ⟨ta, pa, qa⟩ := ha.ex
  obtain ⟨tb, pb, qb⟩ := hb.ex
  refine ⟨tIf t ta tb, pe_ifExp p pa pb, fun Hb Pe P H σ ρ Q d sr ev k => ?_⟩
  obtain ⟨b, e1, ev1⟩ := Option.bind_eq_some_iff.mp ev
  refine q σ H Pe ρ _ b (fun a ha => sr.sub a (sr.fre a ha)) sr.frozen e1 fun H1 s1 => ?_
  cases b with
  | true => rw [if_pos rfl] at ev1 ⊢; exact qa Hb Pe P H1 σ ρ Q d (sr.same s1) ev1 fun v H2 s2 r2 => k v H2 (s1.trans s2) r2
  | false => rw [if_neg Bool.false_ne_true] at ev1 ⊢; exact qb Hb Pe P H1 σ ρ Q d (sr.same s1) ev1 fun v H2 s2 r2 => k v H2 (s1.trans s2) r2
def sRetT (f : SE) : SS := fun F ρ => (f F ρ).map (.rt true)
theorem evS_retR {e : Expr} {f : SE} (h : EvR X ks F e f) : EvS X ks F (.Return (some e) pos) (sRetT f) := by
  obtain ⟨t, p, q⟩ := h.ex
  refine ⟨tRet t, ps_ret p, fun Hb Pe P H σ ρ D r sr ev k => ?_⟩
  obtain ⟨d, e1, rfl⟩ := Option.map_eq_some_iff.mp ev
  exact q Hb Pe P H σ ρ _ d sr e1 fun v H' s r => k v H' (sr.keep.trans s) r.1 fun _ => r.2
end
end RE
/-! RE12: for, while, parallel assignments. -/
namespace RE
open PySem PySem.Spec PyProof.Rows L2
section
variable {X : Cx} {ks ks' : Ks} {F : Fn} {pos : Pos}
/-- some own slots are not changed for now -/
def Dem (ks ks' : Ks) : Prop := ∀ i, kd ks' i = kd ks i ∨ (kd ks i = .M ∧ kd ks' i = .L)
theorem Dem.refl : Dem ks ks := fun _ => .inl rfl
theorem Dem.ml (h : Dem ks ks') {i : Nat} : (kd ks' i = .M ∨ kd ks' i = .L) ↔ (kd ks i = .M ∨ kd ks i = .L) := by
  rcases h i with e | ⟨e1, e2⟩
  · rw [e]
  · rw [e1, e2]; simp
theorem Dem.b (h : Dem ks ks') {i : Nat} : kd ks' i = .B ↔ kd ks i = .B := by
  rcases h i with e | ⟨e1, e2⟩
  · rw [e]
  · rw [e1, e2]; simp
theorem SR.dem {mg : Str → Option Value} {Hb : Hp} {Pe P : Addr → Prop} {H : Hp} {σ : L2.St} {ρ : RE.Env} (h : SR mg Hb Pe P ks H σ ρ) (dm : Dem ks ks') : SR mg Hb Pe P ks' H σ ρ where
  freE := h.freE
  sub := h.sub
  fre := h.fre
  keep := h.keep
  er := ⟨h.er.1, fun i d e => by
    obtain ⟨v, e1, r⟩ := h.er.2 i d e
    refine ⟨v, e1, ?_⟩
    rcases dm i with q | ⟨q1, q2⟩
    · rw [q]; exact r
    · rw [q2]; rw [q1] at r; exact r⟩
  own := fun i d hk e m => by
    obtain ⟨a, h1, h2, h3, h4⟩ := h.own i d (dm.ml.mp hk) e m
    refine ⟨a, h1, h2, h3, fun q => h4 ?_⟩
    rcases dm i with z | ⟨z1, z2⟩
    · rw [← z]; exact q
    · exact z1
  dist := fun i j d e a ij hi hj => h.dist i j d e a ij (dm.ml.mp hi) (dm.ml.mp hj)
  bord := fun i d a hk => h.bord i d a (dm.b.mp hk)
  nofn := fun i g hk => h.nofn i g (dm.ml.mp hk)
theorem Top.dem (dm : Dem ks ks') {σ : L2.St} {ρ : RE.Env} {P : Addr → Prop} {a : Addr} (h : Top ks σ ρ P a) : Top ks' σ ρ P a := by
  rcases h with h | ⟨i, d, hk, r⟩
  · exact .inl h
  · refine .inr ⟨i, d, ?_, r⟩
    rcases dm i with z | ⟨z1, z2⟩
    · rw [z]; exact hk
    · rw [z1] at hk; rcases hk with y | y <;> cases y
theorem Frm.undem {P P' : Addr → Prop} {H H' : Hp} {σ σ' : L2.St} {ρ ρ' : RE.Env} (dm : Dem ks ks') (h : Frm ks' P H σ ρ P' H' σ' ρ') : Frm ks P H σ ρ P' H' σ' ρ' where
  sub := h.sub
  ext := h.ext
  slots := fun i hk => h.slots i (by
    rcases dm i with z | ⟨z1, z2⟩
    · rw [z]; exact hk
    · rw [z1] at hk; rcases hk with y | y <;> cases y)
  objs := fun b o e hx => h.objs b o e (hx.imp_left (Top.dem dm))
  there := h.there
/-- back to the kinds before -/
theorem SR.undem {mg : Str → Option Value} {Hb : Hp} {Pe P P' : Addr → Prop} {H H' : Hp} {σ σ' : L2.St} {ρ ρ' : RE.Env} (h : SR mg Hb Pe P ks H σ ρ) (dm : Dem ks ks') (f : Frm ks' P H σ ρ P' H' σ' ρ') (g : SR mg Hb Pe P' ks' H' σ' ρ') : SR mg Hb Pe P' ks H' σ' ρ' where
  freE := g.freE
  sub := g.sub
  fre := g.fre
  keep := g.keep
  er := ⟨g.er.1, fun i d e => by
    obtain ⟨v, e1, r⟩ := g.er.2 i d e
    refine ⟨v, e1, ?_⟩
    rcases dm i with q | ⟨q1, q2⟩
    · rw [← q]; exact r
    · rw [q1]; rw [q2] at r; exact r⟩
  own := fun i d hk e m => by
    obtain ⟨a, h1, h2, h3, h4⟩ := g.own i d (dm.ml.mpr hk) e m
    refine ⟨a, h1, h2, h3, fun q => ?_⟩
    rcases dm i with z | ⟨z1, z2⟩
    · exact h4 (by rw [z]; exact q)
    · obtain ⟨e1, e2⟩ := f.slots i (.inl z2)
      have er : ρ[i]? = some (some d) := by rw [← e2]; exact e
      have es : σ[i]? = some (some (.ref a)) := by rw [← e1]; exact h1
      obtain ⟨b, y1, y2, y3, y4⟩ := h.own i d (.inl z1) er m
      rw [es] at y1; cases y1
      have c := y4 z1
      cases ho : H a with
      | none => rw [ho] at c; exact c.elim
      | some o =>
        rw [f.objs a o ho (.inl (.inr ⟨i, d, .inl z2, es, er, m⟩)), ← ho]
        exact c
  dist := fun i j d e a ij hi hj => g.dist i j d e a ij (dm.ml.mpr hi) (dm.ml.mpr hj)
  bord := fun i d a hk => g.bord i d a (dm.b.mpr hk)
  nofn := fun i q hk => g.nofn i q (dm.ml.mpr hk)

/-! ### for -/
def forD (asg : SG) (body : RE.Env → Option Res) : List D → RE.Env → Option Res
  | [], ρ => some (.nx ρ)
  | d :: ds, ρ => (asg d ρ).bind fun ρ1 => (body ρ1).bind fun r => match r with | .nx ρ2 => forD asg body ds ρ2 | .rt w v => some (.rt w v)
def sFor (fi : SL) (asg : SG) (body : SS) : SS := fun F ρ => (fi F ρ).bind fun ds => forD asg (body F) ds ρ
theorem evS_for {tg iter : Expr} {b : List Stmt} {fi : SL} {is : List Nat} {asg : SG} {body : SS} (hp : PassesOwn (model X.prog X.w) X.A X.env X.xe) (hc : X.calm = true) (dm : Dem ks ks') (hi : EvI X ks' F tg iter fi) (hg : EvG X ks' tg is asg) (ht : Touches asg is) (hF : ∀ j ∈ is, kd ks' j = .F) (hb : EvSs X ks' F b body)
    (hs : ∀ x, foldedSetIterable iter X.env x = pure x) : EvS X ks F (.For tg iter b [] pos) (sFor fi asg body) := by
  obtain ⟨wi, pi, qi⟩ := hi.ex
  obtain ⟨tb, pb, qb⟩ := hb.ex
  refine ⟨tFor wi (tG X.mg ks' is asg) tb, ps_for hp hc pi hg.can pb hs, fun Hb Pe P H σ ρ D r sr ev k => ?_⟩
  obtain ⟨ds, e1, e2⟩ := Option.bind_eq_some_iff.mp ev
  have sr' := sr.dem dm
  refine qi σ H P ρ _ ds sr'.fre sr'.er e1 fun J H1 src s1 wk tp => ?_
  have sr1 := sr'.same s1
  refine for_it (n := ds.length) (G := fun H2 => ∃ P2, (∀ a, H1 a ≠ none → P a → P2 a) ∧ Kept P2 src H1 H2) (Y := fun i H2 x H3 => ∀ P2, (∀ a, H1 a ≠ none → P a → P2 a) → Kept P2 src H1 H2 → Same H2 H3 ∧ ∃ d, ds[i]? = some d ∧ Rep P2 H3 d x)
    ⟨fun i H2 hi ⟨P2, h1, h2⟩ => (wk P2 h1).goes H2 i h2 hi, fun H2 ⟨P2, h1, h2⟩ => (wk P2 h1).stops H2 h2, fun i H2 x H3 hi _ y P2 h1 h2 => (wk P2 h1).yields H2 i x H3 h2 hi y⟩
    (fun i σ2 H2 => ∃ P2 ρ2, SR X.mg Hb Pe P2 ks' H2 σ2 ρ2 ∧ Frm ks' P H1 σ ρ P2 H2 σ2 ρ2 ∧ forD asg (body F) (ds.drop i) ρ2 = some r) ?_ ?_ ?_ ?_
  · exact ⟨P, ρ, sr1, Frm.refl, e2⟩
  · rintro i σ2 H2 hi ⟨P2, ρ2, sr2, fm, ev2⟩
    refine ⟨P2, fm.ext, fun b o eb hx => fm.objs b o eb ?_⟩
    rcases hx with z | z | z
    · exact .inl (.inl (fm.sub b z))
    · exact .inr z
    · exact .inl (tp b z)
  · rintro i x σ2 H2 H3 hi ⟨P2, ρ2, sr2, fm, ev2⟩ y
    obtain ⟨s3, d, ed, rd⟩ := y P2 fm.ext fun b o eb hx => fm.objs b o eb (by
      rcases hx with z | z | z
      · exact .inl (.inl (fm.sub b z))
      · exact .inr z
      · exact .inl (tp b z))
    have ed2 : ds.drop i = d :: ds.drop (i + 1) := by
      have hlt := (List.getElem?_eq_some_iff.mp ed).1
      rw [List.drop_eq_getElem_cons hlt]
      congr 1
      exact (List.getElem?_eq_some_iff.mp ed).2
    rw [ed2] at ev2
    obtain ⟨ρ3, e3, e4⟩ := Option.bind_eq_some_iff.mp ev2
    obtain ⟨r3, e5, e6⟩ := Option.bind_eq_some_iff.mp e4
    have sr3 := sr2.same s3
    refine ⟨P2, ρ2, ρ3, d, rd, sr3.er, e3, fun σ3 er3 hl hj => ?_⟩
    have sr4 := sr3.assign hF er3 hj (ht d ρ2 ρ3 e3).2
    have fm4 : Frm ks' P H1 σ ρ P2 H3 σ3 ρ3 := (fm.trans (Frm.of_same s3)).trans (Frm.assign hF hj (ht d ρ2 ρ3 e3).2)
    refine qb Hb Pe P2 H3 σ3 ρ3 _ r3 sr4 e5 ?_
    cases r3 with
    | nx ρ5 => exact fun P5 σ5 H5 sr5 fm5 => ⟨P5, ρ5, sr5, fm4.trans fm5, e6⟩
    | rt w v =>
      cases e6
      exact k
  · rintro σ2 H2 ⟨P2, ρ2, sr2, fm, ev2⟩
    rw [List.drop_length] at ev2
    cases ev2
    have fm' := (Frm.of_same (ks := ks') (P := P) (σ := σ) (ρ := ρ) s1).trans fm
    exact k P2 σ2 H2 (sr.undem dm fm' sr2) (Frm.undem dm fm')

/-! ### while -/
def whileD (c : RE.Env → Option Bool) (body : RE.Env → Option Res) : Nat → RE.Env → Option Res
  | 0, _ => none
  | n + 1, ρ => (c ρ).bind fun b => if b then (body ρ).bind fun r => match r with | .nx ρ2 => whileD c body n ρ2 | .rt w v => some (.rt w v) else some (.nx ρ)
open Classical in
/-- as many turns as it takes -/
noncomputable def sWhile (c : SB) (body : SS) : SS := fun F ρ => if h : ∃ n r, whileD (c F) (body F) n ρ = some r then some (Classical.choose (Classical.choose_spec h)) else none
theorem whileD_mono (c : RE.Env → Option Bool) (body : RE.Env → Option Res) : ∀ n ρ r, whileD c body n ρ = some r → whileD c body (n + 1) ρ = some r
  | 0, _, _, h => by cases h
  | n + 1, ρ, r, h => by
    rw [whileD] at h ⊢
    obtain ⟨b, e1, e2⟩ := Option.bind_eq_some_iff.mp h
    refine Option.bind_eq_some_iff.mpr ⟨b, e1, ?_⟩
    cases b with
    | false => exact e2
    | true =>
      rw [if_pos rfl] at e2 ⊢
      obtain ⟨q, e3, e4⟩ := Option.bind_eq_some_iff.mp e2
      refine Option.bind_eq_some_iff.mpr ⟨q, e3, ?_⟩
      cases q with
      | nx ρ2 => exact whileD_mono c body n ρ2 r e4
      | rt w v => exact e4
theorem whileD_le (c : RE.Env → Option Bool) (body : RE.Env → Option Res) {n m : Nat} (h : n ≤ m) {ρ : RE.Env} {r : Res} (e : whileD c body n ρ = some r) : whileD c body m ρ = some r := by
  induction h with
  | refl => exact e
  | step _ ih => exact whileD_mono c body _ ρ r ih
theorem sWhile_of {c : SB} {body : SS} {F : Fn} {n : Nat} {ρ : RE.Env} {r : Res} (e : whileD (c F) (body F) n ρ = some r) : sWhile c body F ρ = some r := by
  have h : ∃ n r, whileD (c F) (body F) n ρ = some r := ⟨n, r, e⟩
  unfold sWhile
  rw [dif_pos h]
  have e2 := Classical.choose_spec (Classical.choose_spec h)
  have a1 := whileD_le (c F) (body F) (Nat.le_max_left n (Classical.choose h)) e
  have a2 := whileD_le (c F) (body F) (Nat.le_max_right n (Classical.choose h)) e2
  rw [a1] at a2
  exact a2.symm
theorem sWhile_some {c : SB} {body : SS} {F : Fn} {ρ : RE.Env} {r : Res} (e : sWhile c body F ρ = some r) : ∃ n, whileD (c F) (body F) n ρ = some r := by
  unfold sWhile at e
  split at e
  · rename_i h
    cases e
    exact ⟨_, Classical.choose_spec (Classical.choose_spec h)⟩
  · cases e
theorem evS_while {c : Expr} {b : List Stmt} {fc : SB} {body : SS} (hp : PassesOwn (model X.prog X.w) X.A X.env X.xe) (hc : EvT X ks F c fc) (hb : EvSs X ks F b body) : EvS X ks F (.While c b [] pos) (sWhile fc body) := by
  obtain ⟨tc, pc, qc⟩ := hc.ex
  obtain ⟨tb, pb, qb⟩ := hb.ex
  refine ⟨tWhile tc tb, ps_while hp pc pb, fun Hb Pe P H σ ρ D r sr ev k => ?_⟩
  obtain ⟨n, e⟩ := sWhile_some ev
  refine ⟨fun n σ2 H2 => ∃ P2 ρ2, SR X.mg Hb Pe P2 ks H2 σ2 ρ2 ∧ Frm ks P H σ ρ P2 H2 σ2 ρ2 ∧ whileD (fc F) (body F) n ρ2 = some r, ⟨n, P, ρ, sr, Frm.refl, e⟩, ?_⟩
  rintro m σ2 H2 ⟨P2, ρ2, sr2, fm, e2⟩
  cases m with
  | zero => cases e2
  | succ m =>
    rw [whileD] at e2
    obtain ⟨bb, e3, e4⟩ := Option.bind_eq_some_iff.mp e2
    refine qc σ2 H2 P2 ρ2 _ bb sr2.fre sr2.er e3 fun H3 s3 => ?_
    have sr3 := sr2.same s3
    have fm3 := fm.trans (Frm.of_same s3)
    cases bb with
    | false =>
      rw [if_neg Bool.false_ne_true] at e4
      refine iteF ?_
      cases e4
      exact k P2 σ2 H3 sr3 fm3
    | true =>
      rw [if_pos rfl] at e4
      refine iteT ?_
      obtain ⟨q, e5, e6⟩ := Option.bind_eq_some_iff.mp e4
      refine ⟨fun σ' H' => ∃ P2 ρ2, SR X.mg Hb Pe P2 ks H' σ' ρ2 ∧ Frm ks P H σ ρ P2 H' σ' ρ2 ∧ whileD (fc F) (body F) m ρ2 = some r, fun σ' H' h => ⟨m, Nat.lt_succ_self m, h⟩, ?_⟩
      refine qb Hb Pe P2 H3 σ2 ρ2 _ q sr3 e5 ?_
      cases q with
      | nx ρ5 => exact fun P5 σ5 H5 sr5 fm5 => ⟨P5, ρ5, sr5, fm3.trans fm5, e6⟩
      | rt w v => cases e6; exact k

/-! ### x += e, of whole numbers -/
def sAug (i : Nat) (f : SE) : SS := fun F ρ => (cV i F ρ).bind fun d => (f F ρ).bind fun e => match d, e with
  | .int m, .int n => some (.nx (ρ.set i (some (.int (m + n)))))
  | _, _ => none
theorem evS_aug {i : Nat} {x : Str} {e : Expr} {f : SE} {p : Pos} (hN : X.N.Nodup) (hi : X.N[i]? = some x) (hx : Loc X.env.scope x) (hk : kd ks i = .F) (he : EvP X ks F e f) (hf : X.fn x = true ∨ X.env.scope.names.lookup x = some .local) : EvS X ks F (.AugAssign (.Name x p) .Add e pos) (sAug i f) := by
  obtain ⟨t, pt, q⟩ := he.ex
  refine ⟨tAug i t (ipI fun i j => i + j), ps_aug hN hi hx pt ip_add hf, fun Hb Pe P H σ ρ D r sr ev k => ?_⟩
  obtain ⟨d, e1, ev1⟩ := Option.bind_eq_some_iff.mp ev
  obtain ⟨y, e2, ev2⟩ := Option.bind_eq_some_iff.mp ev1
  split at ev2
  · rename_i m n
    cases ev2
    obtain ⟨v, e3, r3⟩ := sr.er.2 i _ (cV_some e1)
    rw [hk] at r3
    simp only [RepK, Rep] at r3
    subst r3
    refine ⟨_, e3, q σ H P ρ _ _ sr.fre sr.er e2 fun w H1 s1 r1 => ?_⟩
    simp only [RepB] at r1
    subst r1
    refine ⟨m, n, rfl, rfl, ?_⟩
    exact k P _ H1 ((sr.same s1).set (i := i) (by unfold Fits; rw [hk]; simp only [Rep])) ((Frm.of_same s1).trans (Frm.set (.inl hk)))
  · cases ev2
end
end RE
/-! RE12b: list comprehensions with two fors. -/
namespace RE
open PySem PySem.Spec PyProof.Rows L2

/-- the canonical reading of a walk -/
def tI (mg : Str → Option Value) (ks : Ks) (F : Fn) (fi : SL) : TI := fun σ H R => ∃ (P : Addr → Prop) (ρ : RE.Env) (ds : List D), Fre P H ∧ ER mg P ks H σ ρ ∧ fi F ρ = some ds ∧
  ∀ J H1 src, Same H H1 → (∀ P', (∀ a, H1 a ≠ none → P a → P' a) → WalkD P' src J ds H1) → (∀ a ∈ src, Top ks σ ρ P a) → R J H1
theorem EvI.can {X : Cx} {ks : Ks} {F : Fn} {tg e : Expr} {f : SL} (h : EvI X ks F tg e f) : PI X tg e (tI X.mg ks F f) := by
  obtain ⟨t, p, q⟩ := h.ex
  exact ⟨fun pins s σ H R I ⟨P, ρ, ds, fr, er, ev, k⟩ => p.run pins s σ H R I (q σ H P ρ R ds fr er ev k)⟩
/-- a walk by an invariant, whatever a turn does -/
theorem it_gen {J : It} {n : Nat} {Pv : Nat → Hp → Prop} {Qd : Hp → Prop} {S : V → Hp → (Hp → Prop) → Prop} {H0 : Hp} (h0 : Pv 0 H0) (goes : ∀ i H, i < n → Pv i H → J.go i H) (stops : ∀ H, Pv n H → J.stop n H ∧ Qd H)
    (hs : ∀ i x H H', i < n → Pv i H → J.yld i H x H' → S x H' (Pv (i + 1))) :
    ∃ W : Nat → Nat → Hp → Prop, (∃ m, W 0 m H0) ∧ ∀ i m H, W i m H → (J.stop i H ∧ Qd H) ∨ (J.go i H ∧ ∃ Nx : Hp → Prop, (∀ H', Nx H' → ∃ m', m' < m ∧ W (i + 1) m' H') ∧ ∀ x H', J.yld i H x H' → S x H' Nx) := by
  refine ⟨fun i m H => m + i = n ∧ Pv i H, ⟨n, rfl, h0⟩, ?_⟩
  rintro i m H ⟨hm, p⟩
  by_cases hi : i < n
  · exact .inr ⟨goes i H hi p, Pv (i + 1), fun H' p' => ⟨m - 1, by omega, by omega, p'⟩, fun x H' y => hs i x H H' hi p y⟩
  · obtain rfl : i = n := by omega
    exact .inl (stops H p)
/-- one item of the outer walk -/
def lcTwo (vs1 : List Nat) (asg : SG) (t : SB) (fi1 : SL) (asg1 : SG) (t1 : SB) (e : SE) (F : Fn) (ρ : RE.Env) (d : D) : Option (List D) :=
  (asg d ρ).bind fun ρ' => (t F ρ').bind fun b => if b then (fi1 F ρ').bind fun ds1 => lcAll (lcOne asg1 t1 e F (wipeE ρ' vs1)) ds1 else some []
def cLc2 (own vs1 : List Nat) (fi : SL) (asg : SG) (t : SB) (fi1 : SL) (asg1 : SG) (t1 : SB) (e : SE) : SE := fun F ρ => (fi F ρ).bind fun ds => (lcAll (lcTwo vs1 asg t fi1 asg1 t1 e F (wipeE ρ own)) ds).bind mkLst
theorem evNS_lc2 {X : Cx} {ks ks' : Ks} {F : Fn} {elt tg iter tg1 iter1 : Expr} {ifs ifs1 : List Expr} {scope : Scope} {own : List (Str × Nat)} {vs1 : List Nat} {pos : Pos} {fi fi1 : SL} {is is1 : List Nat} {asg asg1 : SG} {ft ft1 : SB} {fe : SE} (hc : X.calm = true) (hN : X.N.Nodup)
    (hi : EvI X ks F tg iter fi) (ok : BlkOk X.N X.env.scope scope own) (his : ∀ j ∈ is, j ∈ own.map (·.2)) (hv : ∀ j ∈ vs1, j ∈ own.map (·.2)) (his1 : ∀ j ∈ is1, j ∈ vs1) (hk : ∀ i, i ∉ own.map (·.2) → kd ks' i = kd ks i) (hto : Touches asg is) (hF : ∀ j ∈ is, kd ks' j = .F)
    (hg : ∀ (s : Shared) (H : Hp) (C : Addr) (cl : List (Str × Addr)) (fp : List Addr), EvG (X.blk s H scope (compEnvC scope cl C X.env) fp) ks' tg is asg)
    (ht : ∀ (s : Shared) (H : Hp) (C : Addr) (cl : List (Str × Addr)) (fp : List Addr), EvTs (X.blk s H scope (compEnvC scope cl C X.env) fp) ks' F ifs ft)
    (hi1 : ∀ (s : Shared) (H : Hp) (C : Addr) (cl : List (Str × Addr)) (fp : List Addr), EvI (X.blk s H scope (compEnvC scope cl C X.env) fp) ks' F tg1 iter1 fi1)
    (hg1 : ∀ (s : Shared) (H : Hp) (C : Addr) (cl : List (Str × Addr)) (fp : List Addr), EvG (X.blk s H scope (compEnvC scope cl C X.env) fp) ks' tg1 is1 asg1)
    (ht1 : ∀ (s : Shared) (H : Hp) (C : Addr) (cl : List (Str × Addr)) (fp : List Addr), EvTs (X.blk s H scope (compEnvC scope cl C X.env) fp) ks' F ifs1 ft1)
    (he : ∀ (s : Shared) (H : Hp) (C : Addr) (cl : List (Str × Addr)) (fp : List Addr), EvE (X.blk s H scope (compEnvC scope cl C X.env) fp) ks' F elt fe)
    (hs : ∀ x, foldedSetIterable iter X.env x = pure x) (hs1 : ∀ env x, foldedSetIterable iter1 env x = pure x) : EvNS X ks F (.ListComp elt [⟨tg, iter, ifs, 0⟩, ⟨tg1, iter1, ifs1, 0⟩] scope pos) (cLc2 (own.map (·.2)) vs1 fi asg ft fi1 asg1 ft1 fe) := by
  obtain ⟨wi, pi, q⟩ := hi.ex
  refine ⟨_, ⟨pe_lc2 (g := tG X.mg ks' is asg) (tt := tT X.mg ks' F ft) (wi1 := tI X.mg ks' F fi1) (g1 := tG X.mg ks' is1 asg1) (tt1 := tT X.mg ks' F ft1) (te := tE X.mg ks' F fe) hc hN pi ok hv (fun s H C cl fp => (hg s H C cl fp).can) (fun s H C cl fp => (ht s H C cl fp).can) (fun s H C cl fp => (hi1 s H C cl fp).can) (fun s H C cl fp => (hg1 s H C cl fp).can) (fun s H C cl fp => (ht1 s H C cl fp).can) (fun s H C cl fp => (he s H C cl fp).can) hs hs1,
    fun i y py spos hy hyl hsw => ps_setLc2 (g := tG X.mg ks' is asg) (tt := tT X.mg ks' F ft) (wi1 := tI X.mg ks' F fi1) (g1 := tG X.mg ks' is1 asg1) (tt1 := tT X.mg ks' F ft1) (te := tE X.mg ks' F fe) hc hN hy hyl hsw pi ok hv (fun s H C cl fp => (hg s H C cl fp).can) (fun s H C cl fp => (ht s H C cl fp).can) (fun s H C cl fp => (hi1 s H C cl fp).can) (fun s H C cl fp => (hg1 s H C cl fp).can) (fun s H C cl fp => (ht1 s H C cl fp).can) (fun s H C cl fp => (he s H C cl fp).can) hs hs1⟩, fun σ H P ρ Q d fr er ev k => ?_⟩
  obtain ⟨ds, e1, ev1⟩ := Option.bind_eq_some_iff.mp ev
  obtain ⟨outs, e2, ev2⟩ := Option.bind_eq_some_iff.mp ev1
  obtain ⟨rfl, hlen⟩ := mkLst_some ev2
  refine q σ H P ρ _ ds fr er e1 fun J H1 src s1 wk top Dl hD => ?_
  have fr1 := fr.same s1
  have er1 := er.same s1
  have wk := wk (fun b => P b ∧ b ≠ Dl) fun a ha pa => ⟨pa, fun e => ha (e ▸ hD)⟩
  have kept : ∀ H2, (∀ b o, H1 b = some o → H2 b = some o) → Kept (fun b => P b ∧ b ≠ Dl) src H1 H2 := fun H2 h b o e _ => h b o e
  let Pv : Nat → Hp → Prop := fun i H2 => ∃ vs pre, lcAll (lcTwo vs1 asg ft fi1 asg1 ft1 fe F (wipeE ρ (own.map (·.2)))) (ds.take i) = some pre ∧ H2 Dl = some (.lst vs) ∧ RepL (fun b => P b ∧ b ≠ Dl) H2 pre vs ∧ ∀ b o, H1 b = some o → H2 b = some o
  refine it_gen (n := ds.length) (Pv := Pv) ?_ ?_ ?_ ?_
  · refine ⟨[], [], by simp [lcAll], upd_same, by simp [RepL], fun b o e => ?_⟩
    rw [upd_ne (ne_of_none e hD)]; exact e
  · rintro i H2 hi ⟨vs, pre, _, _, _, h⟩
    exact wk.goes H2 i (kept H2 h) hi
  · rintro H2 ⟨vs, pre, hpre, hDl, hr, hkp⟩
    refine ⟨wk.stops H2 (kept H2 hkp), ?_⟩
    rw [List.take_length, e2] at hpre
    cases hpre
    refine k _ H2 (s1.trans hkp) ⟨?_, ?_⟩
    · simp only [Rep]
      exact ⟨Dl, vs, rfl, fr1 Dl hD, hDl, hr.weak fun a z => z.1⟩
    · exact topNew_ref (s1.free hD)
  · rintro i x H2 H3 hi ⟨vs, pre, hpre, hDl, hr, hkp⟩ yl
    obtain ⟨s3, d, hd, rd⟩ := wk.yields H2 i x H3 (kept H2 hkp) hi yl
    have e3 : ds.take (i + 1) = ds.take i ++ [d] := by rw [List.take_add_one, hd]; rfl
    obtain ⟨pre', post, e4, e5⟩ := lcAll_take e2 (i + 1)
    have e4' := e4
    rw [e3, lcAll_snoc, hpre] at e4
    simp only [Option.bind_some] at e4
    obtain ⟨ys, e6, rfl⟩ := Option.map_eq_some_iff.mp e4
    obtain ⟨ρ', e7, e8⟩ := Option.bind_eq_some_iff.mp e6
    obtain ⟨b, e9, e10⟩ := Option.bind_eq_some_iff.mp e8
    have hD3 : H3 Dl = some (.lst vs) := s3 _ _ hDl
    have all3 : ∀ b o, H1 b = some o → H3 b = some o := fun b o e => s3 b o (hkp b o e)
    have fr3 : Fre (fun b => P b ∧ b ≠ Dl) H3 := fre_minus (fr1.same all3) (by rw [hD3]; simp)
    have er3 : ER X.mg (fun b => P b ∧ b ≠ Dl) ks' H3 (L2.wipe σ (own.map (·.2))) (wipeE ρ (own.map (·.2))) := ER.wipe (er1.mono all3 fun a ha pa => ⟨pa, fun e => ha (e ▸ hD)⟩) hk
    refine ⟨_, _, _, d, rd, er3, e7, fun σ' er' hl hj => ⟨wipe_eq hl hj his, ?_⟩⟩
    refine ⟨_, ρ', b, fr3, er', e9, fun H4 s4 => ?_⟩
    have all4 : ∀ b o, H1 b = some o → H4 b = some o := fun b o e => s4 b o (all3 b o e)
    have hD4 : H4 Dl = some (.lst vs) := s4 _ _ hD3
    have hr4 := (hr.same s3).same s4
    cases b with
    | false =>
      rw [if_neg Bool.false_ne_true] at e10
      refine iteF ?_
      cases e10
      exact ⟨vs, pre ++ [], e4', hD4, by rw [List.append_nil]; exact hr4, all4⟩
    | true =>
      rw [if_pos rfl] at e10
      refine iteT ?_
      obtain ⟨ds1, e11, e12⟩ := Option.bind_eq_some_iff.mp e10
      refine ⟨_, ρ', ds1, fr3.same s4, er'.same s4, e11, fun J1 H5 src1 s5 wk1 top1 => ?_⟩
      have hD5 : H5 Dl = some (.lst vs) := s5 _ _ hD4
      have hr5 := hr4.same s5
      have all5 : ∀ b o, H1 b = some o → H5 b = some o := fun b o e => s5 b o (all4 b o e)
      have wk1 := wk1 (fun b => P b ∧ b ≠ Dl) fun a _ pa => pa
      have nD : ∀ a ∈ src1, a ≠ Dl := by
        intro a ha
        rcases top1 a ha with h | ⟨j, dd, hkj, hσ, hρ, hmu⟩
        · exact h.2
        · have nj : j ∉ is := fun hj' => by
            rw [hF j hj'] at hkj
            rcases hkj with h | h <;> cases h
          rw [hj j nj] at hσ
          rw [(hto _ _ _ e7).2 j nj] at hρ
          obtain ⟨hρ1, nown⟩ := wipeE_some hρ
          rw [wipe_out nown] at hσ
          obtain ⟨v, hv1, rk⟩ := er1.2 j dd hρ1
          rw [hσ] at hv1
          cases hv1
          have hB := rk.toB
          have : H1 a ≠ none := by
            cases dd with
            | lst xs => obtain ⟨b, vs', e, h1⟩ := hB.lst; cases e; rw [h1.1]; simp
            | dic t kvs =>
              simp only [RepB] at hB
              obtain ⟨b, ps, e, h1, _⟩ := hB
              cases e
              exact h1.some
            | _ => cases hmu
          exact fun e => this (e ▸ hD)
      have kept1 : ∀ H6 : Hp, (∀ b o, b ≠ Dl → H5 b = some o → H6 b = some o) → Kept (fun b => P b ∧ b ≠ Dl) src1 H5 H6 := fun H6 h b o e hb => by
        refine h b o ?_ e
        rcases hb with hb | hb | hb
        · exact hb.2
        · rintro rfl
          rw [hD5] at e
          cases e
          exact hb trivial
        · exact nD b hb
      let Pw : Nat → Hp → Prop := fun j H6 => ∃ vs' pre1, lcAll (lcOne asg1 ft1 fe F (wipeE ρ' vs1)) (ds1.take j) = some pre1 ∧ H6 Dl = some (.lst vs') ∧ RepL (fun b => P b ∧ b ≠ Dl) H6 (pre ++ pre1) vs' ∧ ∀ b o, b ≠ Dl → H5 b = some o → H6 b = some o
      have pD : ∀ H6 : Hp, (∀ b o, b ≠ Dl → H5 b = some o → H6 b = some o) → ∀ b o, H1 b = some o → H6 b = some o := fun H6 h b o e => h b o (ne_of_none e hD) (all5 b o e)
      refine it_gen (n := ds1.length) (Pv := Pw) ?_ ?_ ?_ ?_
      · exact ⟨vs, [], by simp [lcAll], hD5, by rw [List.append_nil]; exact hr5, fun b o _ e => e⟩
      · rintro j H6 hjl ⟨vs', pre1, _, _, _, h⟩
        exact wk1.goes H6 j (kept1 H6 h) hjl
      · rintro H6 ⟨vs', pre1, hp1, hD6, hr6, h⟩
        refine ⟨wk1.stops H6 (kept1 H6 h), ?_⟩
        rw [List.take_length, e12] at hp1
        cases hp1
        exact ⟨vs', _, e4', hD6, hr6, pD H6 h⟩
      · rintro j y H6 H7 hjl ⟨vs', pre1, hp1, hD6, hr6, h6⟩ yl1
        obtain ⟨s7, d1, hd1, rd1⟩ := wk1.yields H6 j y H7 (kept1 H6 h6) hjl yl1
        have f3 : ds1.take (j + 1) = ds1.take j ++ [d1] := by rw [List.take_add_one, hd1]; rfl
        obtain ⟨pre1', post1, f4, f5⟩ := lcAll_take e12 (j + 1)
        have f4' := f4
        rw [f3, lcAll_snoc, hp1] at f4
        simp only [Option.bind_some] at f4
        obtain ⟨zs, f6, rfl⟩ := Option.map_eq_some_iff.mp f4
        obtain ⟨ρ1, f7, f8⟩ := Option.bind_eq_some_iff.mp f6
        obtain ⟨b1, f9, f10⟩ := Option.bind_eq_some_iff.mp f8
        have hD7 : H7 Dl = some (.lst vs') := s7 _ _ hD6
        have h7 : ∀ b o, b ≠ Dl → H5 b = some o → H7 b = some o := fun b o n e => s7 b o (h6 b o n e)
        have all7 := pD H7 h7
        have fr7 : Fre (fun b => P b ∧ b ≠ Dl) H7 := fre_minus (fr1.same all7) (by rw [hD7]; simp)
        have er5 : ER X.mg (fun b => P b ∧ b ≠ Dl) ks' H7 σ' ρ' := by
          refine ⟨er'.1, fun i2 d2 g2 => ?_⟩
          obtain ⟨v2, g3, g4⟩ := er'.2 i2 d2 g2
          refine ⟨v2, g3, ?_⟩
          by_cases hin : i2 ∈ is
          · rw [hF i2 hin] at g4 ⊢
            have g4 : Rep (fun b => P b ∧ b ≠ Dl) H3 d2 v2 := g4
            have g4 := (g4.same s4).same s5
            exact Rep.same s7 (Rep.kept (kept1 H6 h6) _ _ g4)
          · have hρ2 := (hto _ _ _ e7).2 i2 hin
            rw [g2] at hρ2
            have hσ2 := hj i2 hin
            rw [g3] at hσ2
            obtain ⟨r1, nown⟩ := wipeE_some hρ2.symm
            rw [wipe_out nown] at hσ2
            obtain ⟨v3, m1, m2⟩ := er1.2 i2 d2 r1
            rw [← hσ2] at m1
            cases m1
            rw [hk i2 nown]
            exact RepK.mono all7 (fun a ha pa => ⟨pa, fun e => ha (e ▸ hD)⟩) m2
        have er7 : ER X.mg (fun b => P b ∧ b ≠ Dl) ks' H7 (L2.wipe σ' vs1) (wipeE ρ' vs1) := ER.wipe er5 fun _ _ => rfl
        refine ⟨_, _, _, d1, rd1, er7, f7, fun σ2 er2 hl2 hj2 => ⟨wipe_eq hl2 hj2 his1, ?_⟩⟩
        refine ⟨_, ρ1, b1, fr7, er2, f9, fun H8 s8 => ?_⟩
        have h8 : ∀ b o, b ≠ Dl → H5 b = some o → H8 b = some o := fun b o n e => s8 b o (h7 b o n e)
        have hr8 := (hr6.same s7).same s8
        cases b1 with
        | false =>
          rw [if_neg Bool.false_ne_true] at f10
          refine iteF ?_
          cases f10
          exact ⟨vs', pre1 ++ [], f4', s8 _ _ hD7, by rw [List.append_nil]; exact hr8, h8⟩
        | true =>
          rw [if_pos rfl] at f10
          refine iteT ?_
          obtain ⟨y2, f11, rfl⟩ := Option.map_eq_some_iff.mp f10
          refine ⟨_, ρ1, y2, fr7.same s8, er2.same s8, f11, fun v H9 s9 r9 => ?_⟩
          have hD9 : H9 Dl = some (.lst vs') := s9 _ _ (s8 _ _ hD7)
          have rl := hr8.same s9
          refine ⟨vs', hD9, ?_, vs' ++ [v], pre1 ++ [y2], f4', upd_same, ?_, fun b o n e => ?_⟩
          · rw [rl.len]
            have e13 : outs.length = (pre ++ ys).length + post.length := by rw [e5, List.length_append]
            have e14 : ys.length = (pre1 ++ [y2]).length + post1.length := by rw [f5, List.length_append]
            rw [List.length_append] at e13
            rw [List.length_append, List.length_singleton] at e14
            rw [List.length_append]
            omega
          · rw [← List.append_assoc]
            have r6 : RepL (fun b => P b ∧ b ≠ Dl) H9 ((pre ++ pre1) ++ [y2]) (vs' ++ [v]) := rl.app (by simp only [RepL]; exact ⟨v, [], rfl, r9, rfl⟩)
            exact RepL.chg (by rw [hD9]; trivial) (fun z => z.2 rfl) _ _ r6
          · rw [upd_ne n]
            exact s9 b o (h8 b o n e)
end RE
/-! RE12c: x = [list(..) for ..] and, right behind it, x[i][j] = e. -/
namespace RE
open PySem PySem.Spec PyProof.Rows L2

def tEn (mg : Str → Option Value) (ks : Ks) (F : Fn) (f : SE) : TE := fun σ H Q => ∃ (P : Addr → Prop) (ρ : RE.Env) (d : D), Fre P H ∧ ER mg P ks H σ ρ ∧ f F ρ = some d ∧ ∀ v H', Same H H' → Rep P H' d v → TopNew H d v → Q v H'
theorem EvN.canN {X : Cx} {ks : Ks} {F : Fn} {e : Expr} {f : SE} (h : EvN X ks F e f) : PE X e (tEn X.mg ks F f) := by
  obtain ⟨t, p, q⟩ := h.ex
  exact ⟨fun pins s σ H Q I ⟨P, ρ, d, fr, er, ev, k⟩ => p.run pins s σ H Q I (q σ H P ρ Q d fr er ev fun v H' s r => k v H' s r.1 r.2)⟩
def isLst : D → Bool
  | .lst _ => true
  | _ => false
def cNL (own : List Nat) (fi : SL) (asg : SG) (fe : SE) : SE := fun F ρ => (cLc own fi asg cTrue fe F ρ).bind fun d => match d with
  | .lst ds => if ds.all isLst then some (.lst ds) else none
  | _ => none
/-- a new list of new lists, each of its own; assigned to a name on one line -/
structure EvNL (X : Cx) (ks : Ks) (F : Fn) (e : Expr) (f : SE) : Prop where
  ex : ∃ t : TE, (∀ (i : Nat) (y : Str) (py spos : Pos), X.N[i]? = some y → X.env.scope.names.lookup y = some .local → swapsWith e (some (.Name y py)) spos.line X.env = pure true → PS X (.Assign [.Name y py] e spos) (tAsg t (gName i))) ∧
    ∀ σ H, Cn X.mg H ks F f σ (fun P d v H' => ∃ (ds : List D) (Dl : Addr) (bs : List Addr), d = .lst ds ∧ v = .ref Dl ∧ H Dl = none ∧ H' Dl = some (.lst (bs.map V.ref)) ∧ RepL (fun b => P b ∧ b ≠ Dl) H' ds (bs.map V.ref) ∧ bs.Nodup ∧ ∀ b ∈ bs, H b = none ∧ b ≠ Dl) t
theorem evNL_lc {X : Cx} {ks ks' : Ks} {F : Fn} {elt tg iter : Expr} {scope : Scope} {own : List (Str × Nat)} {pos : Pos} {fi : SL} {is : List Nat} {asg : SG} {fe : SE} (hc : X.calm = true) (hN : X.N.Nodup)
    (hi : EvI X ks F tg iter fi) (ok : BlkOk X.N X.env.scope scope own) (his : ∀ j ∈ is, j ∈ own.map (·.2)) (hk : ∀ i, i ∉ own.map (·.2) → kd ks' i = kd ks i)
    (hg : ∀ (s : Shared) (H : Hp) (C : Addr) (cl : List (Str × Addr)) (fp : List Addr), EvG (X.blk s H scope (compEnvC scope cl C X.env) fp) ks' tg is asg)
    (he : ∀ (s : Shared) (H : Hp) (C : Addr) (cl : List (Str × Addr)) (fp : List Addr), EvN (X.blk s H scope (compEnvC scope cl C X.env) fp) ks' F elt fe)
    (hs : ∀ x, foldedSetIterable iter X.env x = pure x) : EvNL X ks F (.ListComp elt [⟨tg, iter, [], 0⟩] scope pos) (cNL (own.map (·.2)) fi asg fe) := by
  obtain ⟨wi, pi, q⟩ := hi.ex
  have ht : ∀ (s : Shared) (H : Hp) (C : Addr) (cl : List (Str × Addr)) (fp : List Addr), PTs (X.blk s H scope (compEnvC scope cl C X.env) fp) [] (tT X.mg ks' F cTrue) := fun s H C cl fp => (evTs_nil (X := X.blk s H scope (compEnvC scope cl C X.env) fp) (ks := ks') (F := F)).can
  refine ⟨_, fun i y py spos hy hyl hsw => ps_setLc (g := tG X.mg ks' is asg) (tt := tT X.mg ks' F cTrue) (te := tEn X.mg ks' F fe) hc hN hy hyl hsw pi ok (fun s H C cl fp => (hg s H C cl fp).can) ht (fun s H C cl fp => (he s H C cl fp).canN) hs, fun σ H P ρ Q d fr er ev k => ?_⟩
  obtain ⟨d0, e0, ev0⟩ := Option.bind_eq_some_iff.mp ev
  obtain ⟨ds, e1, ev1⟩ := Option.bind_eq_some_iff.mp e0
  obtain ⟨outs, e2, ev2⟩ := Option.bind_eq_some_iff.mp ev1
  obtain ⟨rfl, hlen⟩ := mkLst_some ev2
  simp only at ev0
  split at ev0
  · rename_i hall
    cases ev0
    rw [List.all_eq_true] at hall
    refine q σ H P ρ _ ds fr er e1 fun J H1 src s1 wk top Dl hD => ?_
    have fr1 := fr.same s1
    have er1 := er.same s1
    have wk := wk (fun b => P b ∧ b ≠ Dl) fun a ha pa => ⟨pa, fun e => ha (e ▸ hD)⟩
    have kept : ∀ H2, (∀ b o, H1 b = some o → H2 b = some o) → Kept (fun b => P b ∧ b ≠ Dl) src H1 H2 := fun H2 h b o e _ => h b o e
    refine lc_it (n := ds.length) (G := fun H2 => Kept (fun b => P b ∧ b ≠ Dl) src H1 H2) (Y := fun i H2 x H3 => Same H2 H3 ∧ ∃ d, ds[i]? = some d ∧ Rep (fun b => P b ∧ b ≠ Dl) H3 d x) ⟨fun i H2 hi g => wk.goes H2 i g hi, fun H2 g => wk.stops H2 g, fun i H2 x H3 hi g y => wk.yields H2 i x H3 g hi y⟩
      (fun i H2 => ∃ (bs : List Addr) (pre : List D), lcAll (lcOne asg cTrue fe F (wipeE ρ (own.map (·.2)))) (ds.take i) = some pre ∧ H2 Dl = some (.lst (bs.map V.ref)) ∧ RepL (fun b => P b ∧ b ≠ Dl) H2 pre (bs.map V.ref) ∧ (bs.Nodup ∧ ∀ b ∈ bs, H1 b = none ∧ b ≠ Dl ∧ H2 b ≠ none) ∧ ∀ b o, H1 b = some o → H2 b = some o) ?_ ?_ ?_ ?_
    · refine ⟨[], [], by simp [lcAll], upd_same, by simp [RepL], ⟨List.nodup_nil, fun _ h => nomatch h⟩, fun b o e => ?_⟩
      rw [upd_ne (ne_of_none e hD)]; exact e
    · rintro i H2 _ ⟨bs, pre, _, _, _, _, h⟩
      exact kept H2 h
    · rintro i x H2 H3 hi ⟨bs, pre, hpre, hDl, hr, ⟨hnd, hbs⟩, hkp⟩ ⟨s3, d, hd, rd⟩
      have e3 : ds.take (i + 1) = ds.take i ++ [d] := by rw [List.take_add_one, hd]; rfl
      obtain ⟨pre', post, e4, e5⟩ := lcAll_take e2 (i + 1)
      have e4' := e4
      rw [e3, lcAll_snoc, hpre] at e4
      simp only [Option.bind_some] at e4
      obtain ⟨ys, e6, rfl⟩ := Option.map_eq_some_iff.mp e4
      obtain ⟨ρ', e7, e8⟩ := Option.bind_eq_some_iff.mp e6
      obtain ⟨b, e9, e10⟩ := Option.bind_eq_some_iff.mp e8
      have hD3 : H3 Dl = some (.lst (bs.map V.ref)) := s3 _ _ hDl
      have all3 : ∀ b o, H1 b = some o → H3 b = some o := fun b o e => s3 b o (hkp b o e)
      have sm : Same H1 H3 := all3
      have fr3 : Fre (fun b => P b ∧ b ≠ Dl) H3 := fre_minus (fr1.same sm) (by rw [hD3]; simp)
      have er3 : ER X.mg (fun b => P b ∧ b ≠ Dl) ks' H3 (L2.wipe σ (own.map (·.2))) (wipeE ρ (own.map (·.2))) := ER.wipe (er1.mono sm fun a ha pa => ⟨pa, fun e => ha (e ▸ hD)⟩) hk
      refine ⟨_, _, _, d, rd, er3, e7, fun σ' er' hl hj => ⟨wipe_eq hl hj his, ?_⟩⟩
      refine ⟨_, ρ', b, fr3, er', e9, fun H4 s4 => ?_⟩
      have all4 : ∀ b o, H1 b = some o → H4 b = some o := fun b o e => s4 b o (all3 b o e)
      have eb : b = true := by
        have := (show some true = some b from e9)
        cases this; rfl
      subst eb
      rw [if_pos rfl] at e10
      refine iteT ?_
      obtain ⟨y, e11, rfl⟩ := Option.map_eq_some_iff.mp e10
      refine ⟨_, ρ', y, fr3.same s4, er'.same s4, e11, fun v H5 s5 r5 tn => ?_⟩
      have hD4 : H4 Dl = some (.lst (bs.map V.ref)) := s4 _ _ hD3
      have hD5 : H5 Dl = some (.lst (bs.map V.ref)) := s5 _ _ hD4
      have rl := ((hr.same s3).same s4).same s5
      have hy : isLst y = true := hall y (by rw [e5]; simp)
      obtain ⟨a, us, xs, rfl, rfl, ha5, na4⟩ : ∃ a us xs, v = .ref a ∧ y = .lst xs ∧ H5 a = some (.lst us) ∧ H4 a = none := by
        cases y <;> simp only [isLst] at hy <;> first | (cases hy; done) | skip
        simp only [Rep] at r5
        obtain ⟨a, us, rfl, _, ha, _⟩ := r5
        exact ⟨a, us, _, rfl, rfl, ha, tn a rfl⟩
      have aD : a ≠ Dl := fun z => by rw [z, hD4] at na4; cases na4
      have some4 : ∀ b ∈ bs, H4 b ≠ none := fun b hb z => by
        have := (hbs b hb).2.2
        cases hq : H2 b with
        | none => exact this hq
        | some o => rw [s4 b o (s3 b o hq)] at z; cases z
      refine ⟨bs.map V.ref, hD5, ?_, bs ++ [a], pre ++ [.lst xs], e4', by rw [upd_same, List.map_append]; rfl, ?_, ⟨?_, fun b hb => ?_⟩, fun b o e => ?_⟩
      · rw [rl.len]
        have : outs.length = (pre ++ [D.lst xs]).length + post.length := by rw [e5, List.length_append]
        rw [List.length_append, List.length_singleton] at this
        omega
      · have r6 : RepL (fun b => P b ∧ b ≠ Dl) H5 (pre ++ [.lst xs]) ((bs ++ [a]).map V.ref) := by
          rw [List.map_append]
          exact rl.app (by simp only [List.map_cons, List.map_nil, RepL]; exact ⟨_, [], rfl, r5, rfl⟩)
        exact RepL.chg (by rw [hD5]; trivial) (fun z => z.2 rfl) _ _ r6
      · rw [List.nodup_append]
        refine ⟨hnd, by simp, fun x hx y hy z => ?_⟩
        rw [List.mem_singleton.mp hy] at z
        subst z
        exact some4 _ hx na4
      · have up : ∀ b, H5 b ≠ none → upd H5 Dl (.lst (bs.map V.ref ++ [V.ref a])) b ≠ none := fun b hb => by
          by_cases c : b = Dl
          · rw [c, upd_same]; simp
          · rw [upd_ne c]; exact hb
        rcases List.mem_append.mp hb with hb | hb
        · refine ⟨(hbs b hb).1, (hbs b hb).2.1, up b ?_⟩
          intro z
          cases hq : H4 b with
          | none => exact some4 b hb hq
          | some o => rw [s5 b o hq] at z; cases z
        · rw [List.mem_singleton.mp hb]
          refine ⟨?_, aD, up a (by rw [ha5]; simp)⟩
          cases hq : H1 a with
          | none => rfl
          | some o => rw [all4 a o hq] at na4; cases na4
      · rw [upd_ne (ne_of_none e hD)]
        exact s5 b o (all4 b o e)
    · rintro H2 ⟨bs, pre, hpre, hDl, hr, ⟨hnd, hbs⟩, hkp⟩
      rw [List.take_length, e2] at hpre
      cases hpre
      exact k _ H2 (s1.trans hkp) ⟨_, Dl, bs, rfl, rfl, s1.free hD, hDl, hr, hnd, fun b hb => ⟨s1.free (hbs b hb).1, (hbs b hb).2.1⟩⟩
  · cases ev0
def isAtm : D → Bool
  | .str _ => true
  | .int _ => true
  | .bl _ => true
  | .non => true
  | _ => false
def atmL : D → Bool
  | .lst xs => xs.all isAtm
  | _ => false
theorem Rep.atm {P P' : Addr → Prop} {H H' : Hp} {d : D} {v : V} (h : isAtm d = true) (r : Rep P H d v) : Rep P' H' d v := by
  cases d <;> simp only [isAtm] at h <;> first | (cases h; done) | (simp only [Rep] at r ⊢; exact r)
theorem RepL.atm {P P' : Addr → Prop} {H H' : Hp} : ∀ {ds : List D} {vs : List V}, ds.all isAtm = true → RepL P H ds vs → RepL P' H' ds vs
  | [], vs, _, r => by simp only [RepL] at r ⊢; exact r
  | d :: ds, vs, h, r => by
    rw [List.all_cons, Bool.and_eq_true] at h
    simp only [RepL] at r ⊢
    obtain ⟨v, w, e, r1, r2⟩ := r
    exact ⟨v, w, e, Rep.atm h.1 r1, RepL.atm h.2 r2⟩
theorem RepL.ofGet {P : Addr → Prop} {H : Hp} : ∀ {ds : List D} {vs : List V}, vs.length = ds.length → (∀ (p : Nat) (d : D) (v : V), ds[p]? = some d → vs[p]? = some v → Rep P H d v) → RepL P H ds vs
  | [], [], _, _ => by simp only [RepL]
  | [], _ :: _, h, _ => by cases h
  | _ :: _, [], h, _ => by cases h
  | d :: ds, v :: vs, h, g => by
    simp only [RepL]
    exact ⟨v, vs, rfl, g 0 d v rfl rfl, RepL.ofGet (by simpa using h) fun p d' v' e1 e2 => g (p + 1) d' v' (by simpa using e1) (by simpa using e2)⟩
def lstOf : D → Option (List D)
  | .lst xs => some xs
  | _ => none
def intOf : D → Option Int
  | .int n => some n
  | _ => none
theorem lstOf_some {d : D} {xs : List D} (h : lstOf d = some xs) : d = .lst xs := by
  cases d <;> simp only [lstOf] at h <;> first | (cases h; done) | (cases h; rfl)
theorem intOf_some {d : D} {n : Int} (h : intOf d = some n) : d = .int n := by
  cases d <;> simp only [intOf] at h <;> first | (cases h; done) | (cases h; rfl)
/-- o[k1][k2] = v -/
def nestD (o k1 k2 v : D) : Option D := (lstOf o).bind fun ds => (intOf k1).bind fun n => (intOf k2).bind fun m => (L2.ixN ds.length n).bind fun i => (ds[i]?.bind lstOf).bind fun xs => (L2.ixN xs.length m).map fun j => .lst (ds.set i (.lst (xs.set j v)))
def allAtm : D → Bool
  | .lst ds => ds.all atmL
  | _ => false
def sNest (i : Nat) (f f1 f2 g : SE) (h : SS) : SS := fun F ρ => (f F ρ).bind fun o => if allAtm o = true then (cV i F (ρ.set i (some o))).bind fun _ => (g F (ρ.set i (some o))).bind fun v => if isAtm v = true then (f1 F (ρ.set i (some o))).bind fun k1 => (f2 F (ρ.set i (some o))).bind fun k2 => (nestD o k1 k2 v).bind fun d => h F (ρ.set i (some d)) else none else none
theorem ixN_lt {n : Nat} {k : Int} {i : Nat} (h : L2.ixN n k = some i) : i < n := by
  unfold L2.ixN at h
  split at h
  · split at h
    · cases h; omega
    · cases h
  · split at h
    · cases h; omega
    · cases h
theorem evSs_nest {X : Cx} {ks : Ks} {F : Fn} {i : Nat} {x : Str} {e0 i1 i2 e : Expr} {p0 p1 p2 p3 pos1 pos2 : Pos} {rest : List Stmt} {f f1 f2 g : SE} {h : SS} (hN : X.N.Nodup) (hi : X.N[i]? = some x) (hv : Vis X.env.scope x) (hd : (x == ("__debug__" : Str)) = false) (hcd : (x == ("__classdict__" : Str)) = false) (hk : kd ks i = .M)
    (hlc : X.env.scope.names.lookup x = some .local) (hsw : swapsWith e0 (some (.Name x p0)) pos1.line X.env = pure true) (hl : EvNL X ks F e0 f) (hg : EvE X ks F e g) (h1 : EvP X ks F i1 f1) (h2 : EvP X ks F i2 f2) (hp1 : plainIx i1 = true) (hp2 : plainKey i2 = true)
    (hs : swapsWithSole [.Subscript (.Subscript (.Name x p1) i1 p2) i2 p3] e pos2.line X.env = pure false) (hw : swappedStores [.Subscript (.Subscript (.Name x p1) i1 p2) i2 p3] e X.env = pure none) (hr : EvSs X ks F rest h) :
    EvSs X ks F (.Assign [.Name x p0] e0 pos1 :: .Assign [.Subscript (.Subscript (.Name x p1) i1 p2) i2 p3] e pos2 :: rest) (sNest i f f1 f2 g h) := by
  obtain ⟨t, p, q⟩ := hl.ex
  obtain ⟨tv, pv, qv⟩ := hg.ex
  obtain ⟨t1, pt1, q1⟩ := h1.ex
  obtain ⟨t2, pt2, q2⟩ := h2.ex
  obtain ⟨t', p', q'⟩ := hr.ex
  refine ⟨tSeq (tAsg t (gName i)) (tSeq (tAsg tv (gSub (tOp (rIx X.K) (tVar i) t1) t2 rSetL)) t'), pss_cons (p i x p0 pos1 hi hlc hsw) (pss_cons (ps_asg pv (pg_sub (pe_ix ix_seq (pe_var hi hv hd hcd) pt1 (plainIx_ok hp1)) pt2 set_list (assign_sub hp2 X.env)) hs hw rfl) p'), fun Hb Pe P H σ ρ D r sr ev k => ?_⟩
  obtain ⟨o, e1, ev1⟩ := Option.bind_eq_some_iff.mp ev
  split at ev1
  · rename_i hatm
    obtain ⟨o', ecv, ev1⟩ := Option.bind_eq_some_iff.mp ev1
    have hil : i < σ.length := by
      have := (List.getElem?_eq_some_iff.mp (cV_some ecv)).1
      rw [List.length_set, sr.er.1] at this
      exact this
    obtain ⟨vd, e2, ev2⟩ := Option.bind_eq_some_iff.mp ev1
    split at ev2
    · rename_i hva
      obtain ⟨k1, e3, ev3⟩ := Option.bind_eq_some_iff.mp ev2
      obtain ⟨k2, e4, ev4⟩ := Option.bind_eq_some_iff.mp ev3
      obtain ⟨nd, e5, ev5⟩ := Option.bind_eq_some_iff.mp ev4
      refine q σ H P ρ _ o sr.fre sr.er e1 fun vv H1 s1 ⟨ds, Dl, bs, eo, evv, nDl, hDl, hrl, hnd, hbs⟩ => ?_
      subst eo evv
      have rr : Rep P H1 (.lst ds) (.ref Dl) := by
        simp only [Rep]
        exact ⟨Dl, _, rfl, sr.fre Dl nDl, hDl, hrl.weak fun a z => z.1⟩
      obtain ⟨P1, sub, ext, fr1, ft, _⟩ := new_fits sr hk s1 rr (topNew_ref nDl) (fun _ a ea => by cases ea; rw [hDl]; trivial)
      have sr1 := (sr.shrink s1 sub ext fr1).set ft
      refine qv _ H1 P1 _ _ vd sr1.fre sr1.er e2 fun z H2 s2 rz => ?_
      refine ⟨.ref Dl, List.getElem?_set_self hil, q1 _ H2 P1 _ _ k1 (sr1.fre.same s2) (sr1.er.same s2) e3 fun y H3 s3 ry => ?_⟩
      -- the places
      unfold nestD at e5
      obtain ⟨ds', q1', e5⟩ := Option.bind_eq_some_iff.mp e5
      have q1' := lstOf_some q1'
      cases q1'
      obtain ⟨n, q2', e5⟩ := Option.bind_eq_some_iff.mp e5
      have eq2 := intOf_some q2'
      obtain ⟨m, q3', e5⟩ := Option.bind_eq_some_iff.mp e5
      have eq3 := intOf_some q3'
      obtain ⟨i', ei, e6⟩ := Option.bind_eq_some_iff.mp e5
      obtain ⟨xs, hxs', e6⟩ := Option.bind_eq_some_iff.mp e6
      obtain ⟨dr, hdr, hxs'⟩ := Option.bind_eq_some_iff.mp hxs'
      have hxs : ds[i']? = some (.lst xs) := by rw [hdr, lstOf_some hxs']
      obtain ⟨j, ej, e7⟩ := Option.map_eq_some_iff.mp e6
      subst e7
      have hlenb : bs.length = ds.length := by
        have := hrl.len
        rw [List.length_map] at this
        exact this
      have hi' := ixN_lt ei
      have hb? : (bs.map V.ref)[i']? = some (.ref bs[i']) := by simp [hlenb, hi']
      have hbm : bs[i'] ∈ bs := List.getElem_mem _
      obtain ⟨nb, bD⟩ := hbs _ hbm
      have s13 : Same H1 H3 := s2.trans s3
      rw [eq2] at ry
      simp only [RepB] at ry
      refine .inl ⟨Dl, bs.map V.ref, n, .ref bs[i'], rfl, ry, SqL.of (s13 _ _ hDl), ?_, ?_⟩
      · unfold L2.atI
        have ei2 : L2.ixN bs.length n = some i' := by rw [hlenb]; exact ei
        rw [List.length_map, ei2]
        exact hb?
      refine q2 _ H3 P1 _ _ k2 (sr1.fre.same s13) (sr1.er.same s13) e4 fun w H4 s4 rw' => ?_
      have s14 : Same H1 H4 := s13.trans s4
      rw [eq3] at rw'
      simp only [RepB] at rw'
      obtain ⟨u0, eu0, ru⟩ := hrl.get hxs
      rw [hb?] at eu0
      cases eu0
      simp only [Rep] at ru
      obtain ⟨b0, ys, eb0, _, hys, rys⟩ := ru
      cases eb0
      have hatm' : ∀ p d, ds[p]? = some d → atmL d = true := fun p d hp => by
        have : ds.all atmL = true := hatm
        rw [List.all_eq_true] at this
        exact this d (List.mem_of_getElem? hp)
      have hxa : xs.all isAtm = true := hatm' i' _ hxs
      refine ⟨bs[i'], ys, m, j, rfl, rw', s14 _ _ hys, by rw [rys.len]; exact ej, ?_⟩
      -- what stands behind
      have sHH : Same H (upd H4 bs[i'] (.lst (ys.set j z))) := fun c o hc => by
        have : c ≠ bs[i'] := fun y => by rw [y, nb] at hc; cases hc
        rw [upd_ne this]
        exact s14 _ _ (s1 _ _ hc)
      have hDHH : upd H4 bs[i'] (.lst (ys.set j z)) Dl = some (.lst (bs.map V.ref)) := by
        rw [upd_ne (Ne.symm bD)]
        exact s14 _ _ hDl
      have RR : Rep P (upd H4 bs[i'] (.lst (ys.set j z))) (.lst (ds.set i' (.lst (xs.set j vd)))) (.ref Dl) := by
        simp only [Rep]
        refine ⟨Dl, bs.map V.ref, rfl, sr.fre Dl nDl, hDHH, RepL.ofGet (by rw [List.length_map, List.length_set, hlenb]) fun p d v hp hvp => ?_⟩
        by_cases c : p = i'
        · subst c
          rw [List.getElem?_set_self hi'] at hp
          cases hp
          rw [hb?] at hvp
          cases hvp
          simp only [Rep]
          refine ⟨_, ys.set j z, rfl, sr.fre _ nb, upd_same, ?_⟩
          exact RepL.upd (Rep.atm hva rz) j (RepL.atm hxa rys)
        · rw [List.getElem?_set_ne (Ne.symm c)] at hp
          obtain ⟨v', ev', rv'⟩ := hrl.get hp
          rw [ev'] at hvp
          cases hvp
          have ha := hatm' p d hp
          cases d <;> simp only [atmL] at ha <;> first | (cases ha; done) | skip
          simp only [Rep] at rv' ⊢
          obtain ⟨a, us, rfl, _, hus, rus⟩ := rv'
          have hab : a ∈ bs ∧ a ≠ bs[i'] := by
            have hpl : p < bs.length := by
              have := (List.getElem?_eq_some_iff.mp ev').1
              rw [List.length_map] at this
              exact this
            have e9 : bs[p] = a := by
              rw [List.getElem?_map, List.getElem?_eq_getElem hpl] at ev'
              have := Option.some.inj ev'
              injection this
            refine ⟨e9 ▸ List.getElem_mem _, fun z => c ?_⟩
            rw [← e9] at z
            exact (List.getElem_inj hnd).mp z
          refine ⟨a, us, rfl, sr.fre _ (hbs a hab.1).1, ?_, RepL.atm ha rus⟩
          rw [upd_ne hab.2]
          exact s14 _ _ hus
      obtain ⟨P5, sub5, ext5, fr5, ft5, _⟩ := new_fits sr hk sHH RR (topNew_ref nDl) (fun _ a ea => by cases ea; rw [hDHH]; trivial)
      exact q' Hb Pe P5 _ _ _ D r ((sr.shrink sHH sub5 ext5 fr5).set ft5) ev5 (k.after ((Frm.shrink sHH sub5 ext5).trans (Frm.set (.inr hk))))
    · cases ev2
  · cases ev1
end RE
/-! RE13: a, b = x, y. -/
namespace RE
open PySem PySem.Spec PyProof.Rows L2
section
variable {X : Cx} {ks : Ks} {F : Fn} {pos : Pos}
theorem Chg.same {H H' : Hp} {a : Addr} (s : Same H H') (c : Chg (H a)) : Chg (H' a) := by
  cases h : H a with
  | none => rw [h] at c; exact c.elim
  | some o => rw [s a o h, ← h]; exact c
theorem Fits.mono {mg : Str → Option Value} {Hb : Hp} {P P' : Addr → Prop} {H H' : Hp} {σ : L2.St} {ρ : RE.Env} {i : Nat} {d : D} {v : V} (s : Same H H') (sub : ∀ a, P' a → P a) (ext : ∀ a, H a ≠ none → P a → P' a) (h : Fits mg Hb P ks H σ ρ i d v) : Fits mg Hb P' ks H' σ ρ i d v := by
  unfold Fits at h ⊢
  cases hk : kd ks i with
  | F => rw [hk] at h; exact Rep.mono s ext _ _ h
  | L => rw [hk] at h; exact h
  | B => rw [hk] at h; exact h
  | M =>
    rw [hk] at h
    refine ⟨⟨RepB.mono s ext h.1.1, h.1.2⟩, fun m => ?_⟩
    obtain ⟨a, h1, h2, h3, h4, h5⟩ := h.2 m
    exact ⟨a, h1, h2, fun p => h3 (sub a p), h4.same s, h5⟩
/-- two own things stand apart -/
def Apart (ks : Ks) (i : Nat) (d : D) (v : V) (j : Nat) (e : D) (w : V) : Prop := kd ks i = .M → kd ks j = .M → isMut d = true → isMut e = true → ∀ a, v = .ref a → w ≠ .ref a
def AllApart (ks : Ks) (i : Nat) (d : D) (v : V) : List Nat → List D → List V → Prop
  | [], [], [] => True
  | j :: js, e :: es, w :: ws => Apart ks i d v j e w ∧ AllApart ks i d v js es ws
  | _, _, _ => False
def FitsL (mg : Str → Option Value) (Hb : Hp) (P : Addr → Prop) (ks : Ks) (H : Hp) (σ : L2.St) (ρ : RE.Env) : List Nat → List D → List V → Prop
  | [], [], [] => True
  | i :: is, d :: ds, v :: vs => Fits mg Hb P ks H σ ρ i d v ∧ AllApart ks i d v is ds vs ∧ FitsL mg Hb P ks H σ ρ is ds vs
  | _, _, _ => False
def setAll {α : Type} (l : List (Option α)) : List Nat → List α → List (Option α)
  | i :: is, d :: ds => setAll (l.set i (some d)) is ds
  | _, _ => l
theorem Fits.after {mg : Str → Option Value} {Hb : Hp} {P : Addr → Prop} {H : Hp} {σ : L2.St} {ρ : RE.Env} {i j : Nat} {d e : D} {v w : V} (hi : kd ks i = .F ∨ kd ks i = .M) (h : Fits mg Hb P ks H σ ρ j e w) (ap : Apart ks i d v j e w) : Fits mg Hb P ks H (σ.set i (some v)) (ρ.set i (some d)) j e w := by
  unfold Fits at h ⊢
  cases hk : kd ks j with
  | F => rw [hk] at h; exact h
  | L => rw [hk] at h; exact h
  | B => rw [hk] at h; exact h
  | M =>
    rw [hk] at h
    refine ⟨h.1, fun m => ?_⟩
    obtain ⟨a, h1, h2, h3, h4, h5⟩ := h.2 m
    refine ⟨a, h1, h2, h3, h4, fun l x lj kl q mx z => ?_⟩
    by_cases il : i = l
    · subst il
      have hi1 : i < ρ.length := by
        rw [← List.length_set (i := i) (a := some d)]
        exact (List.getElem?_eq_some_iff.mp q).1
      have hi2 : i < σ.length := by
        rw [← List.length_set (i := i) (a := some v)]
        exact (List.getElem?_eq_some_iff.mp z).1
      rw [List.getElem?_set_self hi1] at q
      rw [List.getElem?_set_self hi2] at z
      cases q; cases z
      rcases kl with kl | kl
      · exact ap kl hk mx m a rfl h1
      · rw [kl] at hi; rcases hi with y | y <;> cases y
    · rw [List.getElem?_set_ne il] at q z
      exact h5 l x lj kl q mx z
theorem FitsL.after {mg : Str → Option Value} {Hb : Hp} {P : Addr → Prop} {H : Hp} {σ : L2.St} {ρ : RE.Env} {i : Nat} {d : D} {v : V} (hi : kd ks i = .F ∨ kd ks i = .M) : ∀ {js : List Nat} {es : List D} {ws : List V}, FitsL mg Hb P ks H σ ρ js es ws → AllApart ks i d v js es ws → FitsL mg Hb P ks H (σ.set i (some v)) (ρ.set i (some d)) js es ws
  | [], [], [], _, _ => trivial
  | j :: js, e :: es, w :: ws, h, ap => ⟨Fits.after hi h.1 ap.1, h.2.1, FitsL.after hi h.2.2 ap.2⟩
  | [], _ :: _, _, h, _ => h.elim
  | [], [], _ :: _, h, _ => h.elim
  | _ :: _, [], _, h, _ => h.elim
  | _ :: _, _ :: _, [], h, _ => h.elim
theorem SR.setAll {mg : Str → Option Value} {Hb : Hp} {Pe P : Addr → Prop} {H : Hp} : ∀ {is : List Nat} {ds : List D} {vs : List V} {σ : L2.St} {ρ : RE.Env}, (∀ i ∈ is, kd ks i = .F ∨ kd ks i = .M) → SR mg Hb Pe P ks H σ ρ → FitsL mg Hb P ks H σ ρ is ds vs →
    SR mg Hb Pe P ks H (setAll σ is vs) (setAll ρ is ds) ∧ Frm ks P H σ ρ P H (setAll σ is vs) (setAll ρ is ds)
  | [], [], [], σ, ρ, _, sr, _ => ⟨sr, Frm.refl⟩
  | i :: is, d :: ds, v :: vs, σ, ρ, hk, sr, h => by
    have sr1 := sr.set h.1
    have hi := hk i (List.mem_cons_self)
    obtain ⟨a, b⟩ := SR.setAll (fun j hj => hk j (List.mem_cons_of_mem _ hj)) sr1 (FitsL.after hi h.2.2 h.2.1)
    exact ⟨a, (Frm.set hi).trans b⟩
  | [], _ :: _, _, _, _, _, _, h => h.elim
  | [], [], _ :: _, _, _, _, _, h => h.elim
  | _ :: _, [], _, _, _, _, _, h => h.elim
  | _ :: _, _ :: _, [], _, _, _, _, h => h.elim
theorem FitsL.mono {mg : Str → Option Value} {Hb : Hp} {P P' : Addr → Prop} {H H' : Hp} {σ : L2.St} {ρ : RE.Env} (s : Same H H') (sub : ∀ a, P' a → P a) (ext : ∀ a, H a ≠ none → P a → P' a) : ∀ {is : List Nat} {ds : List D} {vs : List V}, FitsL mg Hb P ks H σ ρ is ds vs → FitsL mg Hb P' ks H' σ ρ is ds vs
  | [], [], [], _ => trivial
  | i :: is, d :: ds, v :: vs, h => ⟨h.1.mono s sub ext, h.2.1, FitsL.mono s sub ext h.2.2⟩
  | [], _ :: _, _, h => h.elim
  | [], [], _ :: _, h => h.elim
  | _ :: _, [], _, h => h.elim
  | _ :: _, _ :: _, [], h => h.elim
/-- values for slots, one after another -/
structure EvV (X : Cx) (ks : Ks) (F : Fn) (is : List Nat) (es : List Expr) (f : SA) : Prop where
  ex : ∃ t : TA, PA X es t ∧ ∀ Hb Pe P H σ ρ (Q : List V → Hp → Prop) ds, SR X.mg Hb Pe P ks H σ ρ → f F ρ = some ds →
    (∀ P' vs H', Same H H' → SR X.mg Hb Pe P' ks H' σ ρ → Frm ks P H σ ρ P' H' σ ρ → FitsL X.mg Hb P' ks H' σ ρ is ds vs → (∀ j d v, kd ks j = .M → (isMut d = true → ∀ a, v = .ref a → H a ≠ none) → AllApart ks j d v is ds vs) → Q vs H') → t σ H Q
theorem evV_nil : EvV X ks F [] [] cNil :=
  ⟨tNil, pa_nil, fun Hb Pe P H σ ρ Q ds sr ev k => by
    cases ev
    exact k P [] H (Same.refl H) sr Frm.refl trivial fun _ _ _ _ _ => trivial⟩
theorem evV_consF {i : Nat} {is : List Nat} {e : Expr} {es : List Expr} {f : SE} {g : SA} (hk : kd ks i = .F) (hn : noStar e = true) (h : EvE X ks F e f) (hr : EvV X ks F is es g) : EvV X ks F (i :: is) (e :: es) (cCons f g) := by
  obtain ⟨t, p, q⟩ := h.ex
  obtain ⟨t', p', q'⟩ := hr.ex
  refine ⟨tCons t t', pa_cons p p' (starEach_cons (noStar_ne hn)), fun Hb Pe P H σ ρ Q ds sr ev k => ?_⟩
  obtain ⟨d, e1, ev⟩ := Option.bind_eq_some_iff.mp ev
  obtain ⟨ds', e2, ev⟩ := Option.bind_eq_some_iff.mp ev
  cases ev
  refine q σ H P ρ _ d sr.fre sr.er e1 fun v H1 s1 r1 => ?_
  refine q' Hb Pe P H1 σ ρ _ ds' (sr.same s1) e2 fun P2 vs H2 s2 sr2 fm2 ft ap => ?_
  have f1 : Fits X.mg Hb P ks H1 σ ρ i d v := by unfold Fits; rw [hk]; exact r1
  refine k P2 _ H2 (s1.trans s2) sr2 ((Frm.of_same s1).trans fm2) ⟨f1.mono s2 fm2.sub fm2.ext, ?_, ft⟩ fun j d' v' hj hm => ⟨(fun _ z => by rw [hk] at z; cases z), ap j d' v' hj fun m a ea => ?_⟩
  · have : ∀ (js : List Nat) (es : List D) (ws : List V), FitsL X.mg Hb P2 ks H2 σ ρ js es ws → AllApart ks i d v js es ws := by
      intro js
      induction js with
      | nil => intro es ws h; cases es <;> cases ws <;> first | trivial | exact h.elim
      | cons j js ih =>
        intro es ws h
        cases es with
        | nil => exact h.elim
        | cons e es =>
          cases ws with
          | nil => exact h.elim
          | cons w ws => exact ⟨(fun z => by rw [hk] at z; cases z), ih es ws h.2.2⟩
    exact this _ _ _ ft
  · exact fun z => hm m a ea (s1.free z)
theorem evV_consM {i : Nat} {is : List Nat} {e : Expr} {es : List Expr} {f : SE} {g : SA} (hk : kd ks i = .M) (hn : noStar e = true) (h : EvM X ks F e f) (hr : EvV X ks F is es g) : EvV X ks F (i :: is) (e :: es) (cCons f g) := by
  obtain ⟨t, p, q⟩ := h.ex
  obtain ⟨t', p', q'⟩ := hr.ex
  refine ⟨tCons t t', pa_cons p p' (starEach_cons (noStar_ne hn)), fun Hb Pe P H σ ρ Q ds sr ev k => ?_⟩
  obtain ⟨d, e1, ev⟩ := Option.bind_eq_some_iff.mp ev
  obtain ⟨ds', e2, ev⟩ := Option.bind_eq_some_iff.mp ev
  cases ev
  refine q σ H P ρ _ d sr.fre sr.er e1 fun v H1 s1 ⟨r1, tn, un⟩ => ?_
  obtain ⟨P1, sub1, ext1, fr1, f1, _⟩ := new_fits sr hk s1 r1 tn un
  refine q' Hb Pe P1 H1 σ ρ _ ds' (sr.shrink s1 sub1 ext1 fr1) e2 fun P2 vs H2 s2 sr2 fm2 ft ap => ?_
  refine k P2 _ H2 (s1.trans s2) sr2 ((Frm.shrink s1 sub1 ext1).trans fm2) ⟨f1.mono s2 fm2.sub fm2.ext, ap i d v hk fun m a ea z => ?_, ft⟩ fun j d' v' hj hm => ⟨fun _ _ m1 m2 a ea ew => ?_, ap j d' v' hj fun m a ea z => hm m a ea (s1.free z)⟩
  · have := un m a ea
    rw [z] at this
    exact this
  · refine hm m1 a ea ?_
    subst ew
    cases d <;> simp only [isMut] at m2 <;> first | (cases m2; done) | exact tn a rfl
def sPar (is : List Nat) (f : SA) : SS := fun F ρ => (f F ρ).map fun ds => .nx (setAll ρ is ds)
theorem evS_par2 {i j : Nat} {x y : Str} {a b : Expr} {f : SA} {px py pt : Pos} {kt k2 pt2} (hc : X.calm = true) (hN : X.N.Nodup) (hi : X.N[i]? = some x) (hj : X.N[j]? = some y) (hij : i ≠ j)
    (hx : X.env.scope.names.lookup x = some .local) (hy : X.env.scope.names.lookup y = some .local) (hk : ∀ l ∈ [i, j], kd ks l = .F ∨ kd ks l = .M) (ha : EvV X ks F [i, j] [a, b] f)
    (hw : swappedStores [.Tuple [.Name x px, .Name y py] kt pt] (.Tuple [a, b] k2 pt2) X.env = pure (some [x, y])) :
    EvS X ks F (.Assign [.Tuple [.Name x px, .Name y py] kt pt] (.Tuple [a, b] k2 pt2) pos) (sPar [i, j] f) := by
  obtain ⟨t, p, q⟩ := ha.ex
  refine ⟨tPar i j t, ps_par hc hN hi hj hij hx hy p hw rfl, fun Hb Pe P H σ ρ D r sr ev k => ?_⟩
  obtain ⟨ds, e1, rfl⟩ := Option.map_eq_some_iff.mp ev
  refine q Hb Pe P H σ ρ _ ds sr e1 fun P1 vs H1 s1 sr1 fm ft _ => ?_
  match ds, vs, ft with
  | [], [], ft => exact ft.elim
  | [_], [_], ft => exact ft.2.2.elim
  | _ :: _ :: _ :: _, _ :: _ :: _ :: _, ft => exact ft.2.2.2.2.elim
  | [], _ :: _, ft => exact ft.elim
  | _ :: _, [], ft => exact ft.elim
  | [_], _ :: _ :: _, ft => exact ft.2.2.elim
  | _ :: _ :: _, [_], ft => exact ft.2.2.elim
  | [_, _], _ :: _ :: _ :: _, ft => exact ft.2.2.2.2.elim
  | _ :: _ :: _ :: _, [_, _], ft => exact ft.2.2.2.2.elim
  | [d1, d2], [v1, v2], ft =>
    obtain ⟨sr2, fm2⟩ := SR.setAll hk sr1 ft
    exact ⟨v1, v2, rfl, k P1 _ H1 sr2 (fm.trans fm2)⟩
theorem evS_par3 {i j l : Nat} {x y z : Str} {a b c : Expr} {f : SA} {px py pz pt : Pos} {kt k2 pt2} (hc : X.calm = true) (hN : X.N.Nodup) (hi : X.N[i]? = some x) (hj : X.N[j]? = some y) (hl : X.N[l]? = some z) (hij : i ≠ j) (hil : i ≠ l) (hjl : j ≠ l)
    (hx : X.env.scope.names.lookup x = some .local) (hy : X.env.scope.names.lookup y = some .local) (hz : X.env.scope.names.lookup z = some .local) (hk : ∀ n ∈ [i, j, l], kd ks n = .F ∨ kd ks n = .M) (ha : EvV X ks F [i, j, l] [a, b, c] f)
    (hw : swappedStores [.Tuple [.Name x px, .Name y py, .Name z pz] kt pt] (.Tuple [a, b, c] k2 pt2) X.env = pure (some [x, y, z])) :
    EvS X ks F (.Assign [.Tuple [.Name x px, .Name y py, .Name z pz] kt pt] (.Tuple [a, b, c] k2 pt2) pos) (sPar [i, j, l] f) := by
  obtain ⟨t, p, q⟩ := ha.ex
  refine ⟨tPar3 i j l t, ps_par3 hc hN hi hj hl hij hil hjl hx hy hz p hw rfl, fun Hb Pe P H σ ρ D r sr ev k => ?_⟩
  obtain ⟨ds, e1, rfl⟩ := Option.map_eq_some_iff.mp ev
  refine q Hb Pe P H σ ρ _ ds sr e1 fun P1 vs H1 s1 sr1 fm ft _ => ?_
  match ds, vs, ft with
  | [], [], ft => exact ft.elim
  | [_], [_], ft => exact ft.2.2.elim
  | [_, _], [_, _], ft => exact ft.2.2.2.2.elim
  | _ :: _ :: _ :: _ :: _, _ :: _ :: _ :: _ :: _, ft => exact ft.2.2.2.2.2.2.elim
  | [], _ :: _, ft => exact ft.elim
  | _ :: _, [], ft => exact ft.elim
  | [_], _ :: _ :: _, ft => exact ft.2.2.elim
  | _ :: _ :: _, [_], ft => exact ft.2.2.elim
  | [_, _], _ :: _ :: _ :: _, ft => exact ft.2.2.2.2.elim
  | _ :: _ :: _ :: _, [_, _], ft => exact ft.2.2.2.2.elim
  | [_, _, _], _ :: _ :: _ :: _ :: _, ft => exact ft.2.2.2.2.2.2.elim
  | _ :: _ :: _ :: _ :: _, [_, _, _], ft => exact ft.2.2.2.2.2.2.elim
  | [d1, d2, d3], [v1, v2, v3], ft =>
    obtain ⟨sr2, fm2⟩ := SR.setAll hk sr1 ft
    exact ⟨v1, v2, v3, rfl, k P1 _ H1 sr2 (fm.trans fm2)⟩
end
end RE
/-! RE13b: methods of texts. -/
namespace RE
open PySem PySem.Spec PyProof.Rows L2

def strsD : List D → Option (List Str)
  | [] => some []
  | .str b :: xs => (strsD xs).map (b :: ·)
  | _ :: _ => none
theorem RepL.strs {P : Addr → Prop} {H : Hp} : ∀ {ds : List D} {bs : List Str} {vs : List V}, strsD ds = some bs → RepL P H ds vs → vs = bs.map V.str
  | [], bs, vs, e, h => by simp only [strsD] at e; cases e; simp only [RepL] at h; subst h; rfl
  | d :: ds, bs, vs, e, h => by
    cases d <;> simp only [strsD] at e <;> first | (cases e; done) | skip
    obtain ⟨bs', e1, rfl⟩ := Option.map_eq_some_iff.mp e
    simp only [RepL, Rep] at h
    obtain ⟨v, r, rfl, rfl, h2⟩ := h
    rw [RepL.strs e1 h2]; rfl
/-- a.join(xs) -/
def joinS (a : Str) (xs : List D) : Option D := (strsD xs).bind fun ys => if (ys.map (·.length)).sum + ys.length * a.length ≤ 16777216 then some (.str (Txt.join a ys)) else none
def joinD (a : Str) : D → Option D
  | .lst xs => joinS a xs
  | .tup xs => joinS a xs
  | _ => none
theorem evN_join {X : Cx} {ks : Ks} {F : Fn} {a : Str} {e : Expr} {f : SE} {k : Nat} {p apos pos : Pos} (hs : noStar e = true) (hl : (apos.endLine == pos.line) = true) (h : EvP X ks F e f) :
    EvN X ks F (.Call (.Attribute (.Constant (.str a) k p) "join" apos) [e] [] pos) (cU (joinD a) f) := by
  obtain ⟨t, pt, q⟩ := h.ex
  refine ⟨_, pe_join (pe_str (x := a)) pt (starEach_cons (noStar_ne hs)) rfl hl, fun σ H P ρ Q d fr er ev kk => ?_⟩
  obtain ⟨x, e1, ev1⟩ := Option.bind_eq_some_iff.mp ev
  refine ⟨⟨a, rfl⟩, q σ H P ρ _ x fr er e1 fun v H1 s1 r1 => ?_⟩
  have fin : ∀ (xs : List D), joinS a xs = some d → ∃ ys, strsD xs = some ys ∧ (ys.map (·.length)).sum + ys.length * a.length ≤ 16777216 ∧ d = .str (Txt.join a ys) := by
    intro xs hx
    obtain ⟨ys, g1, g2⟩ := Option.bind_eq_some_iff.mp hx
    split at g2
    · rename_i c; cases g2; exact ⟨ys, g1, c, rfl⟩
    · cases g2
  cases x <;> simp only [joinD] at ev1 <;> first | (cases ev1; done) | skip
  · obtain ⟨ys, g1, g2, rfl⟩ := fin _ ev1
    obtain ⟨b, vs, rfl, h1, h2⟩ := r1.tup
    have := h2.strs g1
    subst this
    exact ⟨a, b, ys, rfl, rfl, .inr (SqT.of h1), g2, kk _ H1 s1 ⟨by simp only [Rep], trivial⟩⟩
  · obtain ⟨ys, g1, g2, rfl⟩ := fin _ ev1
    obtain ⟨b, vs, rfl, h1, h2⟩ := r1.lst
    have := h2.strs g1
    subst this
    exact ⟨a, b, ys, rfl, rfl, .inl (SqL.of h1), g2, kk _ H1 s1 ⟨by simp only [Rep], trivial⟩⟩
end RE
/-! RE13c: greatest and least of a list, sorted lists. -/
namespace RE
open PySem PySem.Spec PyProof.Rows L2

def maxL : List Int → Int
  | [] => 0
  | x :: xs => xs.foldl max x
def minL : List Int → Int
  | [] => 0
  | x :: xs => xs.foldl min x
theorem foldl_max : ∀ (xs : List Int) (x : Int), (xs.foldl max x ∈ x :: xs) ∧ ∀ y ∈ x :: xs, y ≤ xs.foldl max x
  | [], x => by simp
  | a :: xs, x => by
    obtain ⟨h1, h2⟩ := foldl_max xs (max x a)
    rw [List.foldl_cons]
    refine ⟨?_, fun y hy => ?_⟩
    · rcases List.mem_cons.mp h1 with h | h
      · rw [h]
        by_cases c : x ≤ a
        · rw [Int.max_eq_right c]; simp
        · rw [Int.max_eq_left (by omega)]; simp
      · exact List.mem_cons_of_mem _ (List.mem_cons_of_mem _ h)
    · have h0 := h2 (max x a) List.mem_cons_self
      rcases List.mem_cons.mp hy with rfl | hy
      · omega
      · rcases List.mem_cons.mp hy with rfl | hy
        · omega
        · exact h2 y (List.mem_cons_of_mem _ hy)
theorem foldl_min : ∀ (xs : List Int) (x : Int), (xs.foldl min x ∈ x :: xs) ∧ ∀ y ∈ x :: xs, xs.foldl min x ≤ y
  | [], x => by simp
  | a :: xs, x => by
    obtain ⟨h1, h2⟩ := foldl_min xs (min x a)
    rw [List.foldl_cons]
    refine ⟨?_, fun y hy => ?_⟩
    · rcases List.mem_cons.mp h1 with h | h
      · rw [h]
        by_cases c : x ≤ a
        · rw [Int.min_eq_left c]; simp
        · rw [Int.min_eq_right (by omega)]; simp
      · exact List.mem_cons_of_mem _ (List.mem_cons_of_mem _ h)
    · have h0 := h2 (min x a) List.mem_cons_self
      rcases List.mem_cons.mp hy with rfl | hy
      · omega
      · rcases List.mem_cons.mp hy with rfl | hy
        · omega
        · exact h2 y (List.mem_cons_of_mem _ hy)
theorem maxL_of {ns : List Int} {m : Int} (h1 : m ∈ ns) (h2 : ∀ j ∈ ns, j ≤ m) : m = maxL ns := by
  cases ns with
  | nil => cases h1
  | cons x xs =>
    obtain ⟨a, b⟩ := foldl_max xs x
    have := h2 _ a
    have := b m h1
    show m = xs.foldl max x
    omega
theorem minL_of {ns : List Int} {m : Int} (h1 : m ∈ ns) (h2 : ∀ j ∈ ns, m ≤ j) : m = minL ns := by
  cases ns with
  | nil => cases h1
  | cons x xs =>
    obtain ⟨a, b⟩ := foldl_min xs x
    have := h2 _ a
    have := b m h1
    show m = xs.foldl min x
    omega
def max1D : D → Option D
  | .lst xs => (intsD xs).bind fun ns => if ns.isEmpty then none else some (.int (maxL ns))
  | _ => none
def min1D : D → Option D
  | .lst xs => (intsD xs).bind fun ns => if ns.isEmpty then none else some (.int (minL ns))
  | _ => none
theorem max1D_ok {mg K} : RcOk mg (rMax K) (op1 max1D) := rc1 fun P H x d v Q fr rx e k => by
  cases x <;> simp only [max1D] at e <;> first | (cases e; done) | skip
  obtain ⟨ns, e1, e2⟩ := Option.bind_eq_some_iff.mp e
  obtain ⟨a, vs, rfl, h1, h2⟩ := rx.lst
  have := h2.ints e1
  subst this
  cases ns with
  | nil => cases e2
  | cons n ns =>
    cases e2
    refine ⟨a, n :: ns, rfl, SqL.of h1, by simp, fun m g1 g2 => ?_⟩
    rw [maxL_of g1 g2]
    exact k _ H (Same.refl H) (by simp only [Rep]) trivial
theorem min1D_ok {mg K} : RcOk mg (rMin K) (op1 min1D) := rc1 fun P H x d v Q fr rx e k => by
  cases x <;> simp only [min1D] at e <;> first | (cases e; done) | skip
  obtain ⟨ns, e1, e2⟩ := Option.bind_eq_some_iff.mp e
  obtain ⟨a, vs, rfl, h1, h2⟩ := rx.lst
  have := h2.ints e1
  subst this
  cases ns with
  | nil => cases e2
  | cons n ns =>
    cases e2
    refine ⟨a, n :: ns, rfl, SqL.of h1, by simp, fun m g1 g2 => ?_⟩
    rw [minL_of g1 g2]
    exact k _ H (Same.refl H) (by simp only [Rep]) trivial

/-! ### sorted -/
def isTup1 : D → Bool
  | .tup (_ :: _) => true
  | _ => false
def notTN : D → Bool
  | .tup _ => false
  | .non => false
  | _ => true
def sortOk (xs : List D) : Bool := (xs.all (pd 60) && fits xs.length) && ((xs.all fun d => xs.all fun e => alk d e) && (xs.all isTup1 || xs.all notTN))
noncomputable def sortL (xs : List D) : List D := xs.mergeSort fun d e => PySem.W.dataLe false toP d e
noncomputable def sortedLD : D → Option D
  | .lst xs => if sortOk xs then some (.lst (sortL xs)) else none
  | _ => none
def isStr1 : D → Bool
  | .str _ => true
  | _ => false
noncomputable def sortedD : D → Option D
  | .dic false kvs => if (kvs.map (·.1)).all isStr1 && decide (kvs.length < 64) then some (.lst (sortL (kvs.map (·.1)))) else none
  | d => sortedLD d
def rSortD (K : PySem.W.Frag) : List V → Hp → VK → Prop := fun vs H Q => ∃ (a : Addr) (ps : List (D × V)), vs = [V.ref a] ∧ SqL K H a (ps.map (·.2)) ∧ (∀ p ∈ ps, Dp K H p.2 (toP p.1) ∧ (toP p.1).depth ≤ 60) ∧ PySem.W.AllAlike (ps.map fun p => toP p.1) ∧ PySem.W.Sortable (ps.map fun p => toP p.1) ∧ ps.length ≤ sizeLine ∧
  ∀ p, H p = none → Q (.ref p) (upd H p (.lst ((ps.mergeSort (PySem.W.dataLe false fun p => toP p.1)).map (·.2))))
theorem each_of {X : Cx} {pins : List (Addr × Obj)} {σ : L2.St} {H : Hp} {s : Shared} (I : Inv X pins σ H s) : ∀ {ps : List (D × V)} {us : List Value}, Vals (ps.map (·.2)) us → (∀ p ∈ ps, Dp X.K H p.2 (toP p.1)) →
    PySem.W.EachIs (fun u p => RelV p.2 u) us ps ∧ PySem.W.EachIs (fun u p => ∃ as, Reads s.heap u (toP p.1) as) us ps
  | [], us, r, _ => by cases r; exact ⟨.nil, .nil⟩
  | p :: ps, us, r, h => by
    cases r with
    | cons r1 rs =>
      obtain ⟨h1, h2⟩ := each_of I rs fun q hq => h q (List.mem_cons_of_mem _ hq)
      exact ⟨.cons r1 h1, .cons (Dp.reads I _ _ _ (h p List.mem_cons_self) r1) h2⟩
theorem vals_of_each : ∀ {us : List Value} {ps : List (D × V)}, PySem.W.EachIs (fun u p => RelV p.2 u) us ps → Vals (ps.map (·.2)) us
  | _, _, .nil => .nil
  | _, _, .cons h t => .cons h (vals_of_each t)
theorem cr_sortD {X : Cx} (hu : X.A.units + 128 < cLine) : CallR X (.builtin "sorted") (rSortD X.K) := by
  intro pins s σ H vs us Q I r h
  obtain ⟨a, ps, rfl, hs, hd, hal, hk, hz, q⟩ := h
  obtain ⟨its, rv, hl, _⟩ := I.list hs
  rw [Vals.ref1 r]
  obtain ⟨e1, e2⟩ := each_of I rv fun p hp => (hd p hp).1
  refine PySem.W.sorted_data (enc := fun p : D × V => toP p.1) hl.isList e1 e2 hal hk hz (fun p hp => by have := (hd p hp).2; omega) fun out ho er => ?_
  obtain ⟨ep, he'⟩ := PyProof.Rows.sortedAll_at s.heap its out.toArray
  have hv := vals_of_each er
  refine ⟨.ref _, upd H (s.heap.objs.size + 1) (.lst ((ps.mergeSort (PySem.W.dataLe false fun p => toP p.1)).map (·.2))), I.laid (t' := s.toks) (fun _ _ => PyProof.Rows.sortedAll_old) (Nat.le_succ _) ⟨?_, out, ep, hv, he'⟩, rfl, q _ (I.hok.fresh (Nat.le_succ _))⟩
  rw [List.length_map, List.length_mergeSort]
  exact hz
theorem RepL.pairs {P : Addr → Prop} {H : Hp} : ∀ {ds : List D} {vs : List V}, RepL P H ds vs → ∃ ps : List (D × V), ps.map (·.1) = ds ∧ ps.map (·.2) = vs ∧ ∀ p ∈ ps, Rep P H p.1 p.2
  | [], vs, h => by simp only [RepL] at h; subst h; exact ⟨[], rfl, rfl, by simp⟩
  | d :: ds, vs, h => by
    simp only [RepL] at h
    obtain ⟨v, r, rfl, h1, h2⟩ := h
    obtain ⟨ps, rfl, rfl, h3⟩ := RepL.pairs h2
    refine ⟨(d, v) :: ps, rfl, rfl, fun p hp => ?_⟩
    rcases List.mem_cons.mp hp with rfl | hp
    · exact h1
    · exact h3 p hp
theorem RepL.ofPairs {P : Addr → Prop} {H : Hp} : ∀ {ps : List (D × V)}, (∀ p ∈ ps, Rep P H p.1 p.2) → RepL P H (ps.map (·.1)) (ps.map (·.2))
  | [], _ => by simp [RepL]
  | p :: ps, h => by
    simp only [List.map_cons, RepL]
    exact ⟨_, _, rfl, h p List.mem_cons_self, RepL.ofPairs fun q hq => h q (List.mem_cons_of_mem _ hq)⟩
theorem sortedLD_ok {mg K} : RcOk mg (rSortD K) (op1 sortedLD) := rc1 fun P H x d v Q fr rx e k => by
  cases x <;> simp only [sortedLD] at e <;> first | (cases e; done) | skip
  rename_i xs
  by_cases c : sortOk xs = true
  · rw [if_pos c] at e
    cases e
    unfold sortOk at c
    simp only [Bool.and_eq_true, Bool.or_eq_true] at c
    obtain ⟨⟨c1, c2⟩, c3, c4⟩ := c
    obtain ⟨a, vs, rfl, h1, h2⟩ := rx.lst
    obtain ⟨ps, e1, rfl, h3⟩ := h2.pairs
    have hp : ∀ p ∈ ps, p.1 ∈ xs := fun p hp => e1 ▸ List.mem_map.mpr ⟨p, hp, rfl⟩
    rw [List.all_eq_true] at c1 c3
    refine ⟨a, ps, rfl, SqL.of h1, fun p hq => ⟨(h3 p hq).toB.dp (mg := mg) (c1 _ (hp p hq)), (pd_ok _ _ (c1 _ (hp p hq))).2⟩, ?_, ?_, ?_, fun q hq => ?_⟩
    · intro d hd d' hd'
      obtain ⟨p, hp1, rfl⟩ := List.mem_map.mp hd
      obtain ⟨p', hp2, rfl⟩ := List.mem_map.mp hd'
      have := c3 _ (hp p hp1)
      rw [List.all_eq_true] at this
      exact this _ (hp p' hp2)
    · rcases c4 with c4 | c4
      · rw [List.all_eq_true] at c4
        refine .inl fun d hd => ?_
        obtain ⟨p, hp1, rfl⟩ := List.mem_map.mp hd
        have := c4 _ (hp p hp1)
        generalize p.1 = z at *
        cases z <;> first | (cases this; done) | skip
        rename_i l
        cases l with
        | nil => cases this
        | cons y l => exact ⟨toP y, toPs l, by simp only [toP, toPs]⟩
      · rw [List.all_eq_true] at c4
        refine .inr fun d hd => ?_
        obtain ⟨p, hp1, rfl⟩ := List.mem_map.mp hd
        have h4 := c4 _ (hp p hp1)
        have h5 := c1 _ (hp p hp1)
        generalize p.1 = z at *
        cases z with
        | non => cases h4
        | tup l => cases h4
        | dic _ _ => simp [pd] at h5
        | scr _ => simp [pd] at h5
        | fn _ => simp [pd] at h5
        | bl b => simp [toP]
        | int b => simp [toP]
        | str b => simp [toP]
        | lst b => simp [toP]
    · have : ps.length = xs.length := by rw [← e1, List.length_map]
      rw [this]; exact of_decide_eq_true c2
    · refine k _ _ (same_new hq) ?_ (topNew_ref hq)
      have e2 : sortL xs = (ps.mergeSort (PySem.W.dataLe false fun p => toP p.1)).map (·.1) := by
        unfold sortL
        rw [← e1]
        exact (List.map_mergeSort (r := PySem.W.dataLe false fun p : D × V => toP p.1) (s := fun d e => PySem.W.dataLe false toP d e) (f := fun p : D × V => p.1) (l := ps) fun a _ b _ => rfl).symm
      rw [e2]
      refine rep_newL fr hq (RepL.ofPairs fun p hp => h3 p ?_)
      exact (List.mergeSort_perm ps _).mem_iff.mp hp
  · rw [if_neg c] at e; cases e
/-! sorted(d), the keys texts -/
theorem ltv_strs (a b : Str) : ltv (.str a) (.str b) = decide (a.cps.toList < b.cps.toList) := by
  unfold ltv
  simp only [toP]
  exact PySem.W.dataLt_str a b
theorem rising_pw : ∀ (l : List Str) (p : Str), risingS p l = true → (p :: l).Pairwise fun a b => ¬ b.cps.toList < a.cps.toList
  | [], p, _ => by simp
  | x :: r, p, h => by
    have h : (!ltCps x.cps.toList p.cps.toList && risingS x r) = true := h
    rw [Bool.and_eq_true, Bool.not_eq_true', ltCps_eq, decide_eq_false_iff_not] at h
    have ih := rising_pw r x h.2
    refine List.pairwise_cons.mpr ⟨fun b hb => ?_, ih⟩
    rcases List.mem_cons.mp hb with rfl | hb
    · exact h.1
    · have h2 := (List.pairwise_cons.mp ih).1 b hb
      rw [List.not_lt] at h2 ⊢
      exact List.le_trans (List.not_lt.mp h.1) h2
theorem sortedS_L {ys ks : List Str} (hp : ys.Perm ks) (hs : sortedS ys = true) : ys.map D.str = sortL (ks.map D.str) := by
  have t : PySem.W.TotalLe (PySem.W.dataLe false toP) := PySem.W.sortLe_total _ _ _
  have h1 := PySem.W.sort_pairwise t (ks.map D.str)
  have pm : (sortL (ks.map D.str)).Perm (ks.map D.str) := List.mergeSort_perm _ _
  have h2 : (ys.map D.str).Pairwise fun d e => PySem.W.dataLe false toP d e = true := by
    rw [List.pairwise_map]
    have : ys.Pairwise fun a b => ¬ b.cps.toList < a.cps.toList := by
      cases ys with
      | nil => exact List.Pairwise.nil
      | cons y ys => exact rising_pw ys y hs
    refine this.imp fun {a b} z => ?_
    show (!ltv (.str b) (.str a)) = true
    rw [ltv_strs, decide_eq_false z]; rfl
  refine List.Perm.eq_of_pairwise (le := fun d e => PySem.W.dataLe false toP d e = true) (fun a b ha hb q1 q2 => ?_) h2 h1 ((hp.map D.str).trans pm.symm)
  obtain ⟨x, _, rfl⟩ := List.mem_map.mp ha
  obtain ⟨y, _, rfl⟩ := List.mem_map.mp (pm.mem_iff.mp hb)
  have q1 : (!ltv (.str y) (.str x)) = true := q1
  have q2 : (!ltv (.str x) (.str y)) = true := q2
  rw [ltv_strs, Bool.not_eq_true', decide_eq_false_iff_not] at q1 q2
  have e : x.cps.toList = y.cps.toList := List.le_antisymm (List.not_lt.mp q1) (List.not_lt.mp q2)
  congr 1
  cases x
  cases y
  exact congrArg Str.mk (Array.toList_inj.mp e)
def rSortDic : List V → Hp → VK → Prop := fun xs H Q => ∃ (a : Addr) (kvs : List (Key × V)) (ks : List Str), xs = [.ref a] ∧ Rd H a (.dK kvs) ∧ kvs.map (·.1) = ks.map Sum.inr ∧ ks.length < 64 ∧
    ∀ ys p, ys.Perm ks → sortedS ys = true → H p = none → Q (.ref p) (upd H p (.lst (ys.map V.str)))
def rSortDD (K : PySem.W.Frag) : List V → Hp → VK → Prop := fun xs H Q => rSortD K xs H Q ∨ rSortDic xs H Q
theorem cr_sortDD {X : Cx} (hc : X.calm = true) (hu : X.A.units + 128 < cLine) : CallR X (.builtin "sorted") (rSortDD X.K) := (cr_sortD hu).or (call_sortedD hc)
theorem repL_strs {P : Addr → Prop} {H : Hp} : ∀ ks : List Str, RepL P H (ks.map .str) (ks.map V.str)
  | [] => by simp only [List.map_nil, RepL]
  | k :: ks => by
    simp only [List.map_cons, RepL]
    exact ⟨_, _, rfl, by simp only [Rep], repL_strs ks⟩
theorem kv_strs {P : Addr → Prop} {H : Hp} : ∀ {kvs : List (D × D)} {kk : List (Key × V)}, RepKV P H kvs (kk.map fun q => (keyD q.1, q.2)) → (kvs.map (·.1)).all isStr1 = true → ∃ ks : List Str, kk.map (·.1) = ks.map Sum.inr ∧ kvs.map (·.1) = ks.map D.str
  | [], kk, h, _ => by
    unfold RepKV at h
    rw [List.map_eq_nil_iff.mp h]
    exact ⟨[], rfl, rfl⟩
  | (k, d) :: kvs, kk, h, e => by
    unfold RepKV at h
    obtain ⟨v, r, e1, h1, h2⟩ := h
    rw [List.map_cons, List.all_cons, Bool.and_eq_true] at e
    cases kk with
    | nil => cases e1
    | cons q kk =>
      rw [List.map_cons] at e1
      injection e1 with e2 e3
      subst e3
      obtain ⟨ks, g1, g2⟩ := kv_strs h2 e.2
      injection e2 with e4 e5
      obtain ⟨key, w⟩ := q
      cases key with
      | inl i =>
        have e4 : D.int i = k := e4
        have := e.1
        rw [← e4] at this
        cases this
      | inr x =>
        have e4 : D.str x = k := e4
        refine ⟨x :: ks, ?_, ?_⟩
        · rw [List.map_cons, List.map_cons, g1]
        · rw [List.map_cons, List.map_cons, g2, ← e4]
theorem sortedD_ok {mg K} : RcOk mg (rSortDD K) (op1 sortedD) := rc1 fun P H x d v Q fr rx e k => by
  have low : sortedLD x = some d → rSortDD K [v] H Q := fun e => .inl (sortedLD_ok (mg := mg) (K := K) P H [x] d [v] Q fr ⟨v, [], rfl, rx, rfl⟩ e k)
  cases x with
  | dic t kvs =>
    cases t with
    | true => cases e
    | false =>
      have e : (if (kvs.map (·.1)).all isStr1 && decide (kvs.length < 64) then some (D.lst (sortL (kvs.map (·.1)))) else none) = some d := e
      split at e
      · rename_i c
        cases e
        rw [Bool.and_eq_true, decide_eq_true_eq] at c
        simp only [RepB] at rx
        obtain ⟨a, ps, rfl, ⟨kk, ra, rfl⟩, h2⟩ := rx
        obtain ⟨ks, g1, g2⟩ := kv_strs h2 c.1
        refine .inr ⟨a, kk, ks, rfl, ra, g1, ?_, fun ys p hp hs hn => ?_⟩
        · have := congrArg List.length g2
          rw [List.length_map, List.length_map] at this
          omega
        · refine k _ _ (same_new hn) ?_ (topNew_ref hn)
          rw [g2, ← sortedS_L hp hs]
          exact rep_newL fr hn (repL_strs ys)
      · cases e
  | _ => exact low e
end RE
/-! RE13d: sets of keys (whole numbers, texts) whose tables rise: made of a list, by a comprehension, told in order. -/
namespace KS
open PySem PySem.Spec PyProof.Rows L2

/-- the key that a value bears -/
def vKey : Value → Key
  | .int k _ => .inl k
  | .str x _ => .inr x
  | _ => .inl 0
theorem vKey_of {k : Key} {v : Value} (h : keyIs k v = true) : vKey v = k := by
  rcases keyIs_shape h with ⟨i, t, rfl, rfl⟩ | ⟨x, t, rfl, rfl⟩ <;> rfl
theorem scan_of {k : Key} {v : Value} (h : keyIs k v = true) : v.scannable = true := by
  rcases keyIs_shape h with ⟨i, t, rfl, rfl⟩ | ⟨x, t, rfl, rfl⟩ <;> rfl
/-- is the key among these? -/
def hasK (l : List Key) (k : Key) : Bool := l.any fun j => decide (j = k)
theorem hasK_iff {l : List Key} {k : Key} : hasK l k = true ↔ k ∈ l := by
  unfold hasK
  rw [List.any_eq_true]
  exact ⟨fun ⟨j, h, e⟩ => of_decide_eq_true e ▸ h, fun h => ⟨k, h, decide_eq_true rfl⟩⟩
theorem hasK_app (l : List Key) (k j : Key) : hasK (l ++ [k]) j = (hasK l j || decide (j = k)) := by
  unfold hasK
  rw [List.any_append, List.any_cons, List.any_nil, Bool.or_false]
  congr 1
  exact decide_eq_decide.mpr eq_comm
abbrev eKey (e : Int × Value) : Key := vKey e.2
def Fine (w : World) (e : Int × Value) : Prop := keyIs (eKey e) e.2 = true ∧ e.1 = keyH w (eKey e)
/-- a set's own data: entries, table, members M, how many -/
structure Data (w : World) (es : Array (Int × Value)) (t : SetTable) (M : Key → Bool) (n : Nat) : Prop where
  fine : ∀ e ∈ es.toList, Fine w e
  once : (es.toList.map eKey).Nodup
  mem : ∀ k, M k = true ↔ k ∈ es.toList.map eKey
  small : es.size < scanBound
  fits : t.fits es.size = true
  num : es.size = n
  ris : Ris t.place.toList
  led : w.params.followText "set-order" = true ∨ t.led = true
def KSet (w : World) (h : Heap) (a : Addr) (M : Key → Bool) (n : Nat) : Prop := ∃ o es ep t, h.get? a = some o ∧ o.ExactSet ∧ o.data = .set es ep t ∧ Data w es t M n
section
variable {P : Program} {w : World} {h h' : Heap} {a : Addr} {M : Key → Bool} {n : Nat}
theorem KSet.at (R : KSet w h a M n) (k : ∀ o, h.get? a = some o → h'.get? a = some o) : KSet w h' a M n := by
  obtain ⟨o, es, ep, t, q, r⟩ := R
  exact ⟨o, es, ep, t, k o q, r⟩
theorem KSet.congr {M' : Key → Bool} (R : KSet w h a M n) (e : ∀ k, M' k = M k) : KSet w h a M' n := by
  rw [show M' = M from funext e]; exact R
theorem fine_elems {l : List (Int × Value)} (g : ∀ e ∈ l, Fine w e) : ElemsOf (mixKind P w) l := fun e he => ⟨⟨eKey e, (g e he).1, (g e he).2⟩, scan_of (g e he).1⟩
theorem fine_is {e : Int × Value} (g : Fine w e) (k : Key) : (mixKind P w).is k e.2 = true ↔ eKey e = k := ⟨fun q => vKey_of q, fun q => q ▸ g.1⟩
theorem fine_mem {l : List (Int × Value)} (g : ∀ e ∈ l, Fine w e) (k : Key) : k ∈ l.map eKey ↔ ∃ e ∈ l, (mixKind P w).is k e.2 = true := by
  rw [List.mem_map]
  exact ⟨fun ⟨e, he, q⟩ => ⟨e, he, (fine_is (g e he) k).mpr q⟩, fun ⟨e, he, q⟩ => ⟨e, he, (fine_is (g e he) k).mp q⟩⟩
theorem KSet.setOf (R : KSet w h a M n) : h.SetOf (mixKind P w) a M n := by
  obtain ⟨o, es, ep, t, q, hx, hd, D⟩ := R
  exact ⟨o, es, ep, t, q, hx, hd, fine_elems D.fine, fun k => (D.mem k).trans (fine_mem D.fine k), D.small, D.fits, D.num⟩
end
section
variable {P : Program} {w : World} {A : Around} {E : Value → Shared → Prop} {s : Shared} {a : Addr} {M : Key → Bool} {n : Nat}
theorem put_end {g : Bool → Sem Unit} (hg : ∀ (b : Bool) (z : Shared) (K : Unit → Shared → Prop), K () z → wpAny (model P w) A (g b) K E z)
    {o : Obj} {es : Array (Int × Value)} {ep : Nat} {t : SetTable} (q : s.heap.get? a = some o) (hx : o.ExactSet) (hd : o.data = .set es ep t)
    {es1 : Array (Int × Value)} {t2 : SetTable} {M' : Key → Bool} (D1 : Data w es1 t2 M' es1.size) {was : Bool} {R : Option Bool → Shared → Prop}
    (hR : ∀ h', Heap.SameBut a s.heap h' → KSet w h' a M' es1.size → R (some true) { s with heap := h' }) :
    wpAny (model P w) A (storeSet a es1 t2 >>= fun _ => if (!was && t2.tooFull) = true then (g (relayAll t2 es1 (SetTable.grown es1.size)).2.2 >>= fun _ => storeSet a (relayAll t2 es1 (SetTable.grown es1.size)).1 (relayAll t2 es1 (SetTable.grown es1.size)).2.1 >>= fun _ => pure (some true)) else pure (some true)) R E s := by
  refine wpAny_bind (wpAny_storeSet_of q hd ?_ (fits_of_scanBound D1.small))
  have q1 := store_at (es' := es1) (t' := t2) q hd
  have b1 := Heap.SameBut.update s.heap a (Obj.putSet es1 t2)
  by_cases c : (!was && t2.tooFull) = true
  · rw [if_pos c]
    have p1 := relayAll_perm t2 es1 (SetTable.grown es1.size)
    have p2 := relayAll_fits t2 es1 (SetTable.grown es1.size)
    have p3 := relayAll_ris t2 es1 (SetTable.grown es1.size)
    have p4 := relayAll_led t2 es1 (SetTable.grown es1.size)
    generalize relayAll t2 es1 (SetTable.grown es1.size) = Y at p1 p2 p3 p4 ⊢
    obtain ⟨es2, t3, gv⟩ := Y
    dsimp only at p1 p2 p3 p4 ⊢
    have e2 : es2.size = es1.size := by rw [← Array.length_toList, p1.length_eq, Array.length_toList]
    refine wpAny_bind (hg _ _ _ (wpAny_bind (wpAny_storeSet_of q1 rfl (wpAny_pure (hR _ (b1.trans (Heap.SameBut.update _ a _)) ?_)) (fits_of_scanBound (by rw [e2]; exact D1.small)))))
    exact ⟨_, es2, _, t3, store_at (es' := es2) (t' := t3) q1 rfl, hx, rfl, fun e he => D1.fine e (p1.mem_iff.mp he), (p1.map eKey).nodup_iff.mpr D1.once, fun k => (D1.mem k).trans (p1.map eKey).mem_iff.symm, by rw [e2]; exact D1.small, p2, e2, p3, D1.led.imp id fun z => by rw [p4]; exact z⟩
  · rw [if_neg c]
    exact wpAny_pure (hR _ b1 ⟨_, es1, _, t2, q1, hx, rfl, D1⟩)
theorem put_hashed {k : Key} {v : Value} {Q : Bool → Shared → Prop} (hv : keyIs k v = true) (R : KSet w s.heap a M n) (room : n + 1 < scanBound)
    (hQ : ∀ h', Heap.SameBut a s.heap h' → KSet w h' a (fun j => M j || decide (j = k)) (if M k = true then n else n + 1) → Q (!M k) { s with heap := h' }) :
    wpAny (model P w) A (setAddHashed a v ((mixKind P w).hash k)) Q E s := by
  obtain ⟨o, es, ep, t, q, hx, hd, D⟩ := R
  have hk : (mixKind P w).is k v = true := hv
  have hel : ElemsOf (mixKind P w) es.toList := fine_elems D.fine
  unfold setAddHashed setAddHashedIn
  refine wpAny_holding (wpAny_bind (wpAny_setState_of q hd D.fits ?_))
  dsimp only
  rw [byScan_of (scan_of hv) D.small hel]
  simp only [↓reduceIte]
  unfold setAddByScan
  refine wpAny_bind (wpAny_bind (wpAny_rule (wpAny_bind (wpAny_setScan_of hk q hd D.fits hel ?_))))
  cases hf : List.findIdx? (fun e => (mixKind P w).is k e.2) es.toList with
  | some j =>
    dsimp only
    obtain ⟨hj, pj, _⟩ := List.findIdx?_eq_some_iff_getElem.mp hf
    have hM : M k = true := (D.mem k).mpr ((fine_mem (P := P) D.fine k).mpr ⟨es.toList[j], List.getElem_mem hj, pj⟩)
    have z := hQ s.heap (Heap.SameBut.refl a s.heap) ⟨o, es, ep, t, q, hx, hd, ⟨D.fine, D.once, fun i => by
      rw [Bool.or_eq_true, decide_eq_true_eq, ← D.mem i]
      exact ⟨fun y => y.elim id (fun e => e ▸ hM), .inl⟩, D.small, D.fits, by rw [if_pos hM]; exact D.num, D.ris, D.led⟩⟩
    rw [hM] at z
    exact wpAny_pure (wpAny_pure z)
  | none =>
    dsimp only
    have hn : k ∉ es.toList.map eKey := fun z => by
      obtain ⟨e, he, y⟩ := (fine_mem (P := P) D.fine k).mp z
      have c := List.findIdx?_eq_none_iff.mp hf e he
      rw [y] at c
      cases c
    have hM : M k = false := by
      cases y : M k with
      | false => rfl
      | true => exact absurd ((D.mem k).mp y) hn
    have p1 := layNew_perm t es ((mixKind P w).hash k) v
    have p2 := layNew_fits t es ((mixKind P w).hash k) v
    have p3 := layNew_ris t es ((mixKind P w).hash k) v D.ris
    have p4 := layNew_led t es ((mixKind P w).hash k) v
    generalize layNew t es ((mixKind P w).hash k) v = Y at p1 p2 p3 p4 ⊢
    obtain ⟨es1, t1, was, gv⟩ := Y
    dsimp only at p1 p2 p3 p4 ⊢
    rw [Array.toList_push] at p1
    have pc : es1.toList.Perm (((mixKind P w).hash k, v) :: es.toList) := p1.trans (List.perm_append_singleton _ _)
    have pk : (es1.toList.map eKey).Perm (k :: es.toList.map eKey) := by
      have z := pc.map eKey
      rw [List.map_cons, show eKey ((mixKind P w).hash k, v) = k from vKey_of hv] at z
      exact z
    have e1 : es1.size = n + 1 := by rw [← Array.length_toList, pc.length_eq, List.length_cons, Array.length_toList, D.num]
    have D1 : ∀ t2 : SetTable, t2.fits es1.size = true → Ris t2.place.toList → (w.params.followText "set-order" = true ∨ t2.led = true) → Data w es1 t2 (fun j => M j || decide (j = k)) es1.size := fun t2 f2 r2 l2 =>
      ⟨fun e he => by
        rcases List.mem_cons.mp (pc.mem_iff.mp he) with z | z
        · rw [z]
          unfold Fine
          rw [show eKey ((mixKind P w).hash k, v) = k from vKey_of hv]
          exact ⟨hv, rfl⟩
        · exact D.fine e z, pk.nodup_iff.mpr (List.nodup_cons.mpr ⟨hn, D.once⟩), fun i => by
        rw [Bool.or_eq_true, decide_eq_true_eq, D.mem i, pk.mem_iff, List.mem_cons]
        exact Or.comm, by rw [e1]; exact room, f2, rfl, r2, l2⟩
    have hl1 : w.params.followText "set-order" = true ∨ t1.led = true := D.led.imp id fun z => by rw [p4]; exact z
    have fin : ∀ h', Heap.SameBut a s.heap h' → KSet w h' a (fun j => M j || decide (j = k)) es1.size → Q true { s with heap := h' } := fun h' sb r => by
      have z := hQ h' sb
      rw [hM] at z
      rw [e1] at r
      exact z r
    have gw : ∀ (b : Bool) {z : Shared} {K : Unit → Shared → Prop}, K () z → wpAny (model P w) A (match b with | true => rule "set.scan.the-table-gave-way" | false => pure ()) K E z :=
      fun b z K y => by cases b <;> first | exact wpAny_pure y | exact wpAny_rule y
    refine wpAny_bind (gw _ ?_)
    split
    · refine wpAny_bind ?_
      rw [hashByValue_scannable 8 (scan_of hv)]
      refine wpAny_pure ?_
      refine put_end (fun b z K y => by cases b <;> first | exact wpAny_pure y | exact wpAny_rule y) q hx hd (D1 _ ?_ ?_ ?_) ?_
      · first | (split <;> first | exact p2 | exact SetTable.fits_plain_off p2) | exact p2
      · first | (split <;> exact p3) | exact p3
      · first | (split <;> exact hl1) | exact hl1
      · intro h' sb r; dsimp only; exact wpAny_pure (fin h' sb r)
    · refine wpAny_bind (wpAny_pure ?_)
      simp only [↓reduceIte]
      refine put_end (fun b z K y => by cases b <;> first | exact wpAny_pure y | exact wpAny_rule y) q hx hd (D1 _ p2 p3 hl1) ?_
      intro h' sb r; dsimp only; exact wpAny_pure (fin h' sb r)
theorem put_key {k : Key} {v : Value} {Q : Value → Shared → Prop} (hv : keyIs k v = true) (R : KSet w s.heap a M n) (room : n + 1 < scanBound)
    (hQ : ∀ h', Heap.SameBut a s.heap h' → KSet w h' a (fun j => M j || decide (j = k)) (if M k = true then n else n + 1) → Q .none { s with heap := h', toks := s.toks + 1 }) :
    wpAny (model P w) A (call (.builtin "set.add") [.ref a, v]) Q E s := by
  have hS : s.heap.SetOf (mixKind P w) a M n := R.setOf
  refine wpAny_call_entry F.slot_set_add hS.typeIs F.entry_set_add ?_ (F.args_set_add_2 _ _)
  unfold Builtin.«set.add» Builtin.Frozenset.oneOther
  simp only [List.isEmpty_nil, bind_assoc]
  unfold Builtin.Frozenset.addrOf setAdd
  refine wpAny_bind (wpAny_pure ?_)
  try dsimp only
  refine wpAny_bind (wpAny_pure ?_)
  try dsimp only
  refine wpAny_bind (wpAny_holding (wpAny_bind ((mixKind P w).pyHash (k := k) hv (put_hashed (s := { s with toks := s.toks + 1 }) hv R room fun h' sb r => ?_))))
  exact (show wpAny _ _ (ret Value.none) _ _ _ from wpAny_pure ⟨_, rfl, hQ h' sb r⟩)
/-- a fresh set -/
abbrev freshO (w : World) : Obj := { cls := .type "set", dict := none, data := .set #[] 0 (.fresh 0 0 (!w.params.followText "set-order")) }
theorem fresh_at {h : Heap} {a : Addr} (q : h.get? a = some (freshO w)) : KSet w h a (fun _ => false) 0 :=
  ⟨_, #[], 0, _, q, ⟨rfl, rfl, rfl⟩, rfl, (fun e he => by simp at he), (by simp), (fun k => by simp), (by decide), (by rfl), rfl, List.Pairwise.nil, by
    show _ ∨ (!w.params.followText "set-order") = true
    cases w.params.followText "set-order"
    · exact .inr rfl
    · exact .inl rfl⟩
end
section
variable {P : Program} {w : World} {A : Around} {E : Value → Shared → Prop} {s : Shared}
/-- the loop that fills a set -/
theorem fill_keys {I : Addr} {fp wr : List Addr} {G : Array GenState → Array GenState → Prop} {n : Nat} {Pv : Nat → Value → Prop} {St : Nat → Shared → Prop} {R : Result → Shared → Prop}
    (W : WalksS P w A.in1 I fp wr G n Pv St) (S : Addr) (nS : S ∉ fp) (ks : List Key) (hn : n = ks.length) (hb : ks.length + 1 < scanBound) (hv : ∀ i v, Pv i v → ∃ k, ks[i]? = some k ∧ keyIs k v = true) :
    ∀ (m i : Nat) (s : Shared), n - i = m → i ≤ n → St i s → (∃ c, c ≤ i ∧ KSet w s.heap S (hasK (ks.take i)) c) →
      (∀ s' c, Moved (S :: wr) G s s' → c ≤ n → KSet w s'.heap S (hasK ks) c → R (.ok (.ret .none)) s') →
      codeAny (model P w) A (.builtin "set.update.loop" ⟨[.ref S, .ref I], []⟩) R s := by
  have nw : S ∉ wr := fun z => nS (W.sub _ z)
  have up : ∀ b ∈ wr, b ∈ S :: wr := fun b z => List.mem_cons_of_mem _ z
  intro m
  induction m with
  | zero =>
    intro i s hm hi st ⟨c, hc, hS⟩ hR
    obtain rfl : i = n := by omega
    refine codeAny_builtin F.entry_set_update_loop ?_
    rw [Around.under_plainId F.plain_set_update_loop _]
    show wpAny _ A.in1 (pyNext (.ref I) >>= _) _ _ s
    refine wpAny_bind (W.done s _ _ st fun s' mv => ?_)
    rw [List.take_of_length_le (by omega)] at hS
    exact (show wpAny _ A.in1 (ret Value.none) _ _ s' from wpAny_pure (hR s' c (mv.mono up) hc (hS.at fun o e => mv.heap S o nw e)))
  | succ m ih =>
    intro i s hm hi st ⟨c, hc, hS⟩ hR
    have lt : i < n := by omega
    refine codeAny_builtin F.entry_set_update_loop ?_
    rw [Around.under_plainId F.plain_set_update_loop _]
    show wpAny _ A.in1 (pyNext (.ref I) >>= _) _ _ s
    refine wpAny_bind (W.item i s _ _ lt st fun v s' hP st' mv => ?_)
    obtain ⟨k, hk, kv⟩ := hv i v hP
    have hS' : KSet w s'.heap S (hasK (ks.take i)) c := hS.at fun o e => mv.heap S o nw e
    show wpAny _ A.in1 (holding [v] (setAdd S v) >>= _) _ _ s'
    refine wpAny_bind (wpAny_holding ?_)
    unfold setAdd
    refine wpAny_holding (wpAny_bind ((mixKind P w).pyHash (k := k) kv ?_))
    refine put_hashed (s := { s' with toks := s'.toks + 1 }) kv hS' (by omega) fun h' sb hS2 => ?_
    have hS3 : KSet w h' S (hasK (ks.take (i + 1))) (if hasK (ks.take i) k = true then c else c + 1) := hS2.congr fun j => by
      rw [List.take_add_one, hk]
      exact hasK_app _ k j
    have c3 : (if hasK (ks.take i) k = true then c else c + 1) ≤ i + 1 := by split <;> omega
    refine wpAny_pure ⟨plainId_quiet F.plain_set_update_loop _, ih (i + 1) _ (by omega) lt (W.frame _ s' _ _ st' (Nat.le_succ _) fun b hb o e => ?_) ⟨_, c3, hS3⟩ fun s'' c2 mv'' hc'' hS'' => ?_⟩
    · rw [sb.2 b (fun z : b = S => nS (z ▸ hb))]; exact e
    · refine hR s'' c2 (Moved.trans W.gtrans ((mv.mono up).then_heap (Nat.le_succ _) fun b o hb e => ?_) mv'') hc'' hS''
      rw [sb.2 b (fun z : b = S => hb (z ▸ List.mem_cons_self))]; exact e
theorem new_at (h : Heap) : (h.push (freshO w)).get? h.objs.size = some (freshO w) := Heap.get?_push_size _ rfl
set_option maxRecDepth 100000 in
set_option maxHeartbeats 3200000 in
/-- set(xs), xs a list of keys -/
theorem set_of_list {l : Addr} {items : Array Value} (ks : List Key) {Q : Value → Shared → Prop} (hh : A.handled = none) (hl : s.heap.IsList l items) (hlen : items.size = ks.length) (hit : ∀ (i : Nat) (v : Value), items[i]? = some v → ∃ k, ks[i]? = some k ∧ keyIs k v = true) (hb : ks.length + 1 < scanBound)
    (h : ∀ (h' : Heap) (tk c : Nat), KSet w h' s.heap.objs.size (hasK ks) c → c ≤ ks.length → (∀ b o, s.heap.get? b = some o → h'.get? b = some o) → Q (.ref s.heap.objs.size) { s with heap := h', toks := tk }) :
    wpAny (model P w) A (call (.type "set") [.ref l]) Q E s := by
  obtain ⟨c, tl, mro⟩ := F.called_set.mro
  have made := F.called_set.made
  have sub := F.called_set.sub
  refine wpAny_call (codeAny_of_tree ?_)
  show wpAny _ _ (callAny (.type "set") _) _ _ _
  refine wpAny_pure ⟨Code.quiet_builtin _ (by decide +kernel), codeAny_builtin F.entry_type_call ?_⟩
  rw [Around.under_plain (weight_type_call_type "set" [.ref l] []) rfl]
  have g1 := F.called_set.notType
  have g2 := F.called_set.canCreate
  have g3 := F.typeCall_set_1 (.ref l)
  repeat (any_goals (first | assumption | wp_step))
  refine codeAny_mono (code_set_led1 (.ref l) (E := E) (Q₁ := fun obj z => obj = .ref s.heap.objs.size ∧ z = { s with heap := s.heap.push (freshO w) }) ⟨rfl, rfl⟩) fun r z hr => ?_
  cases r with
  | error e => exact hr
  | ok fl =>
    cases fl with
    | ret obj =>
      obtain ⟨rfl, rfl⟩ := hr
      have hS := new_at (w := w) s.heap
      have hT : Shared.TypeIs { s with heap := s.heap.push (freshO w) } (.ref s.heap.objs.size) "set" := ⟨_, hS, rfl⟩
      have li := F.called_set.init.lookup
      have bi := F.called_set.init.bind (.ref s.heap.objs.size)
      repeat (any_goals (first | assumption | wp_step))
      refine codeAny_mono (codeAny_call_builtin (R := wants (fun r z => r = .none ∧ ∃ h' tk c, z = { s with heap := h', toks := tk } ∧ KSet w h' s.heap.objs.size (hasK ks) c ∧ c ≤ ks.length ∧ (∀ b o, s.heap.get? b = some o → h'.get? b = some o)) E) F.called_set.init.plain F.entry_set_init (check_set_init_1 hT ?_)) fun r2 z2 hr2 => ?_
      · obtain ⟨ol, hol, hcl, nl, hdl⟩ := hl
        obtain ⟨ocls, odict, odata, oslots⟩ := ol
        simp only at hcl hdl
        subst hcl; subst hdl
        have hol' : (s.heap.push (freshO w)).get? l = some { cls := .type "list", dict := odict, data := .seq items nl, slots := oslots } := Heap.get?_push_of_some _ hol
        have s1 := F.sub_list_set
        have s2 := F.sub_list_frozenset
        have ne : (Value.type "list" == Value.type "dict") = false := by decide
        have l1 : (s.heap.push (freshO w)).IsList l items := ⟨_, hol', rfl, nl, rfl⟩
        unfold Builtin.«set.__init__» noKeywords Builtin.Frozenset.updateFrom
        generalize hPI : pyIter = PI
        wp_walk
        subst hPI
        refine wpAny_pyIter_list l1 (wpAny_bind (wpAny_runValue ?_))
        have lS : l < s.heap.objs.size := Heap.lt_size hol
        have h3 : A.in1.in1.in1.handled = none := by simp [hh]
        have sz : (s.heap.push (freshO w)).objs.size = s.heap.objs.size + 1 := Heap.size_push ..
        have nI : l ≠ (s.heap.push (freshO w)).objs.size := by rw [sz]; exact Nat.ne_of_lt (Nat.lt_succ_of_lt lS)
        have nf : s.heap.objs.size ∉ [(s.heap.push (freshO w)).objs.size, l] := by
          rw [sz]; simp only [List.mem_cons, List.mem_singleton, List.not_mem_nil, or_false, not_or]
          exact ⟨Nat.ne_of_lt (Nat.lt_succ_self _), Nat.ne_of_gt lS⟩
        refine fill_keys ((Walks.list h3 _ l nI items).toS) s.heap.objs.size nf ks hlen hb hit (items.size - 0) 0 _ (by omega) (Nat.zero_le _) ⟨⟨_, Heap.get?_push_size _ rfl, rfl, rfl⟩, (l1.push _)⟩ ?zero ?rest
        case zero => exact ⟨0, Nat.le_refl 0, (fresh_at (Heap.get?_push_of_some _ hS)).congr fun k => rfl⟩
        case rest =>
          intro s' c' mv hc' hS'
          obtain ⟨h', gg, dd, tk', os'⟩ := s'
          obtain rfl : gg = s.gens := mv.gens
          obtain rfl : dd = s.drawn := mv.drawn
          obtain rfl : os' = s.os := mv.os
          show wpAny _ _ _ _ _ _
          refine wpAny_pure ?_
          show wpAny _ _ (ret Value.none) _ _ _
          refine wpAny_pure ⟨rfl, h', tk', c', rfl, hS', by omega, fun b o e => ?_⟩
          have bl : b < s.heap.objs.size := Heap.lt_size e
          refine mv.heap b o (fun z => ?_) (Heap.get?_push_of_some _ (Heap.get?_push_of_some _ e))
          rcases List.mem_cons.mp z with z | z
          · exact absurd bl (by rw [z]; exact Nat.lt_irrefl _)
          · have z := List.mem_singleton.mp z
            have z : b = (s.heap.push (freshO w)).objs.size := z
            rw [sz] at z
            exact absurd bl (by rw [z]; exact Nat.not_lt_of_le (Nat.le_succ _))
      · cases r2 with
        | error e => exact hr2
        | ok fl2 =>
          cases fl2 with
          | ret r =>
            obtain ⟨rfl, h', tk, c', rfl, hS', hc', hk'⟩ := hr2
            repeat (any_goals (first | assumption | wp_step))
            exact h _ _ _ hS' hc' hk'
          | _ => exact hr2.elim
    | _ => exact hr.elim
end
section
variable {P : Program} {w : World} {A : Around} {E : Value → Shared → Prop} {s : Shared} {a : Addr} {M : Key → Bool} {n : Nat}
def kP : Key → PyData
  | .inl i => .int i
  | .inr x => .str x
/-- all numbers, or all texts -/
def OneKind (ks : List Key) : Prop := (∀ k ∈ ks, ∃ i, k = .inl i) ∨ ∀ k ∈ ks, ∃ x, k = .inr x
theorem alike_keys {ks : List Key} (h : OneKind ks) : PySem.W.AllAlike (ks.map kP) ∧ PySem.W.Sortable (ks.map kP) := by
  constructor
  · intro d hd d' hd'
    obtain ⟨k, hk, rfl⟩ := List.mem_map.mp hd
    obtain ⟨k', hk', rfl⟩ := List.mem_map.mp hd'
    rcases h with h | h
    · obtain ⟨i, rfl⟩ := h k hk
      obtain ⟨j, rfl⟩ := h k' hk'
      simp [kP, PySem.W.alike]
    · obtain ⟨i, rfl⟩ := h k hk
      obtain ⟨j, rfl⟩ := h k' hk'
      simp [kP, PySem.W.alike]
  · refine .inr fun d hd => ?_
    obtain ⟨k, hk, rfl⟩ := List.mem_map.mp hd
    cases k <;> exact ⟨fun z => (by cases z), fun xs z => (by cases z)⟩
theorem each_keys {h : Heap} : ∀ {l : List Value}, (∀ v ∈ l, keyIs (vKey v) v = true) → PySem.W.EachIs (fun v k => keyIs k v = true) l (l.map vKey) ∧ PySem.W.EachIs (fun v k => ∃ as, Reads h v (kP k) as ∧ as = []) l (l.map vKey)
  | [], _ => ⟨.nil, .nil⟩
  | v :: l, hv => by
    obtain ⟨h1, h2⟩ := each_keys (h := h) fun u hu => hv u (List.mem_cons_of_mem _ hu)
    have h0 := hv v List.mem_cons_self
    refine ⟨.cons h0 h1, .cons ?_ h2⟩
    rcases keyIs_shape h0 with ⟨i, t, e, rfl⟩ | ⟨x, t, e, rfl⟩
    · exact ⟨[], .int i t, rfl⟩
    · exact ⟨[], .str x t, rfl⟩
/-- sorted(set) -/
theorem sorted_kset {Q : Value → Shared → Prop} (R : KSet w s.heap a M n) (hh : A.handled = none) (hn : n ≤ 1000) (hu : A.units + 8 < cLine) (hk : ∀ ks : List Key, (∀ k ∈ ks, M k = true) → OneKind ks)
    (hQ : ∀ s' p (out : Array Value) (c : Nat) (ks : List Key), (∀ b o, s.heap.get? b = some o → s'.heap.get? b = some o) → s'.gens = s.gens → s'.os = s.os → s.heap.objs.size ≤ p →
      s'.heap.get? p = some (seqObj "list" out c) → PySem.W.EachIs (fun v k => keyIs k v = true) out.toList (ks.mergeSort (PySem.W.dataLe false kP)) → ks.Nodup → (∀ k, k ∈ ks ↔ M k = true) → ks.length = n → Q (.ref p) s') :
    wpAny (model P w) A (call (.builtin "sorted") [.ref a]) Q E s := by
  obtain ⟨o, es, ep, t, q, hx, hd, D⟩ := R
  refine Calls.call_function_entry kind_sorted plain_sorted entry_sorted (args_sorted1 _) ?_
  unfold Builtin.«sorted»
  refine wpAny_bind (m := checkCount "sorted" 1 1 _) (wpAny_pure ?_)
  refine wpAny_bind (collect_set (A := A.in1) hh ⟨o, q, hx.1, hd⟩ D.fits D.small D.ris D.led fun s1 vs k1 hz g1 o1 pm => ?_)
  have vl : vs.length = n := by rw [pm.length_eq, List.length_map, Array.length_toList]; exact D.num
  have pk : (vs.map vKey).Perm (es.toList.map eKey) := by
    have z := pm.map vKey
    rw [List.map_map] at z
    exact z
  have hv : ∀ v ∈ vs, keyIs (vKey v) v = true := fun v hv => by
    obtain ⟨e, he, rfl⟩ := List.mem_map.mp (pm.mem_iff.mp hv)
    exact (D.fine e he).1
  have hm : ∀ k, k ∈ vs.map vKey ↔ M k = true := fun k => by rw [pk.mem_iff, ← D.mem k]
  refine wpAny_bind (wpAny_newList ?_ (by rw [vl, sizeLine_eq]; omega))
  have hL : (s1.heap.push (seqObj "list" vs.toArray 0)).get? s1.heap.objs.size = some (seqObj "list" vs.toArray 0) := Heap.get?_push_size _ rfl
  obtain ⟨al, so⟩ := alike_keys (hk (vs.map vKey) fun k h => (hm k).mp h)
  obtain ⟨e1, e2⟩ := each_keys (h := s1.heap.push (seqObj "list" vs.toArray 0)) hv
  refine wpAny_bind (wpAny_holding (PySem.W.list_sort_data (s := { s1 with heap := s1.heap.push (seqObj "list" vs.toArray 0) }) (enc := kP) hL e1 (e2.mono fun v k h => ?_) al so ?_ ?_ fun out ho eo => ?_))
  · obtain ⟨as, h1, rfl⟩ := h
    exact ⟨[], h1, by simp⟩
  · rw [List.length_map, vl, sizeLine_eq]; omega
  · intro k _
    have : (kP k).depth = 0 := by cases k <;> rfl
    rw [this]
    first
      | exact (show A.units + 1 + 0 < cLine by omega)
      | exact (show A.units + 1 + 1 + 0 < cLine by omega)
      | exact (show A.units + 1 + 1 + 1 + 0 < cLine by omega)
      | exact (show A.units + 1 + 1 + 1 + 1 + 0 < cLine by omega)
  · obtain ⟨c, hc⟩ := sortedHeap_at (vs := vs) (out := List.toArray out) hL
    refine wpAny_pure ⟨_, rfl, hQ _ s1.heap.objs.size (List.toArray out) c (vs.map vKey) (fun b u e => ?_) g1 o1 hz hc eo (pk.nodup_iff.mpr D.once) hm (by rw [List.length_map]; exact vl)⟩
    have z := k1 b u e
    have lt := Heap.lt_size z
    show (sortedHeap (s1.heap.push (seqObj "list" vs.toArray 0)) s1.heap.objs.size vs (List.toArray out)).get? b = some u
    rw [sortedHeap_old (Nat.ne_of_lt lt) (by rw [size_push']; exact Nat.lt_succ_of_lt lt)]
    exact Heap.get?_push_of_some _ z
end
section
/-- the set of keys at a, as a tracked thing -/
def KO (w : World) (a : Addr) (M : Key → Bool) (n : Nat) : HO := .ext fun h => KSet w h a M n
theorem ko_new {w : World} {P : Program} {H : Hp} {h : Heap} {a : Addr} {M : Key → Bool} {n : Nat} (R : KSet w h a M n) : ObjOk P w H h a (KO w a M n) := by
  have ⟨o, _, _, _, ho, _⟩ := R
  exact ⟨R, ⟨o, ho⟩, fun h1 h2 p k => KSet.at p k⟩
variable {X : Cx}
theorem ko_get {pins : List (Addr × Obj)} {σ : L2.St} {H : Hp} {s : Shared} {a : Addr} {M : Key → Bool} {n : Nat} (I : Inv X pins σ H s) (ha : H a = some (KO X.w a M n)) : KSet X.w s.heap a M n := (I.hok a _ ha).1
theorem ko_add {pins : List (Addr × Obj)} {σ : L2.St} {H : Hp} {s : Shared} {E : Value → Shared → Prop} {D : Addr} {M : Key → Bool} {n : Nat} {k : Key} {v : Value} {Q : Value → Shared → Prop} (I : Inv X pins σ H s) (hv : keyIs k v = true) (hD : H D = some (KO X.w D M n)) (room : n + 1 < scanBound)
    (h : ∀ s', Inv X pins σ (upd H D (KO X.w D (fun j => M j || decide (j = k)) (if M k = true then n else n + 1))) s' → Q .none s') : wpAny (model X.prog X.w) X.A (call (.builtin "set.add") [.ref D, v]) Q E s := by
  refine put_key hv (ko_get I hD) room fun h' sb new => ?_
  have he : ∃ u, h'.get? D = some u := by
    have ⟨o, _, _, _, ho, _⟩ := new
    exact ⟨o, ho⟩
  exact h _ (I.write (e := D) (t' := s.toks + 1) (by rw [hD]; trivial) (.inl rfl) (fun b u hb hu => (sb.2 b hb).trans hu) he (ko_new new))
theorem vals_keys : ∀ {ks : List Key} {us : List Value}, Vals (ks.map kV) us → us.length = ks.length ∧ ∀ (i : Nat) (v : Value), us[i]? = some v → ∃ k, ks[i]? = some k ∧ keyIs k v = true
  | [], _, .nil => ⟨rfl, fun i v h => by simp at h⟩
  | k :: ks, _, .cons r t => by
    obtain ⟨h1, h2⟩ := vals_keys t
    refine ⟨by rw [List.length_cons, List.length_cons, h1], fun i v h => ?_⟩
    cases i with
    | zero =>
      rw [List.getElem?_cons_zero] at h ⊢
      cases h
      refine ⟨k, rfl, ?_⟩
      cases k with
      | inl i =>
        obtain ⟨u, rfl⟩ := r
        exact keyIs_int i u
      | inr x =>
        obtain ⟨u, rfl⟩ := r
        exact keyIs_str x u
    | succ i =>
      rw [List.getElem?_cons_succ] at h ⊢
      exact h2 i v h
/-- set(xs) by values -/
def rSetK (K : PySem.W.Frag) (w : World) : List V → Hp → VK → Prop := fun xs H Q => ∃ (l : Addr) (ks : List Key), xs = [V.ref l] ∧ SqL K H l (ks.map kV) ∧ ks.length ≤ 900 ∧
  ∀ a c, H a = none → c ≤ ks.length → Q (.ref a) (upd H a (KO w a (hasK ks) c))
theorem cr_setK (hc : X.calm = true) : CallR X (.type "set") (rSetK X.K X.w) := by
  intro pins s σ H xs us Q I r h
  obtain ⟨l, ks, rfl, hl, hf, q⟩ := h
  rw [Vals.ref1 r]
  obtain ⟨its, rv, pl, hz⟩ := I.list hl
  obtain ⟨v1, v2⟩ := vals_keys rv
  have hn : H s.heap.objs.size = none := I.hok.fresh (Nat.le_refl _)
  refine set_of_list (P := X.prog) (w := X.w) ks (I.ok.hd hc) pl.isList (by rw [List.size_toArray]; exact v1) (fun i v hi => v2 i v (by simpa using hi)) (by unfold scanBound; omega) fun h' tk c R hc' k => ?_
  exact ⟨.ref s.heap.objs.size, upd H s.heap.objs.size (KO X.w s.heap.objs.size (hasK ks) c), I.laid (t' := tk) k (Nat.le_refl _) (ko_new R), rfl, q _ c hn hc'⟩
/-- sorted(set) by values -/
def rSortK (w : World) : List V → Hp → VK → Prop := fun vs H Q => ∃ (a : Addr) (M : Key → Bool) (n : Nat), vs = [V.ref a] ∧ H a = some (KO w a M n) ∧ n ≤ 1000 ∧ (∀ ks : List Key, (∀ k ∈ ks, M k = true) → OneKind ks) ∧
  ∀ (ks : List Key) (p : Addr), ks.Nodup → (∀ k, k ∈ ks ↔ M k = true) → H p = none → Q (.ref p) (upd H p (.lst ((ks.mergeSort (PySem.W.dataLe false kP)).map kV)))
theorem vals_each : ∀ {us : List Value} {ks : List Key}, PySem.W.EachIs (fun v k => keyIs k v = true) us ks → Vals (ks.map kV) us
  | _, _, .nil => .nil
  | _, _, .cons (b := k) h t => by
    refine .cons ?_ (vals_each t)
    rcases keyIs_shape h with ⟨i, u, rfl, rfl⟩ | ⟨x, u, rfl, rfl⟩
    · exact ⟨u, rfl⟩
    · exact ⟨u, rfl⟩
theorem cr_sortK (hc : X.calm = true) (hu : X.A.units + 128 < cLine) : CallR X (.builtin "sorted") (rSortK X.w) := by
  intro pins s σ H vs us Q I r h
  obtain ⟨a, M, n, rfl, ha, hn, hk, q⟩ := h
  rw [Vals.ref1 r]
  refine sorted_kset (ko_get I ha) (I.ok.hd hc) hn (by omega) hk fun s' p out c ks k g o hp hg hout nd mem len => ?_
  have hv := vals_each hout
  have hl : ((ks.mergeSort (PySem.W.dataLe false kP)).map kV).length ≤ sizeLine := by rw [List.length_map, List.length_mergeSort, len, sizeLine_eq]; omega
  have hno : H p = none := I.hok.fresh hp
  have J : Inv X pins σ (upd H p (.lst ((ks.mergeSort (PySem.W.dataLe false kP)).map kV))) { s with heap := s'.heap, gens := s'.gens, drawn := s'.drawn, toks := s'.toks } :=
    I.call (ch := []) (Un.laid k hp hno) (I.hok.laid k hp ⟨hl, out.toList, c, hv, hg⟩) (by rw [g]; exact I.bare) (fun _ z => nomatch z)
  have e : s' = { s with heap := s'.heap, gens := s'.gens, drawn := s'.drawn, toks := s'.toks } := by
    cases s'
    cases s
    cases o
    rfl
  rw [e]
  exact ⟨.ref p, _, J, rfl, q ks p nd mem hno⟩
end
end KS
/-! RE13e: sets of keys by a comprehension; sorted(set(..)), sorted({..}). -/
namespace KS
open PySem PySem.Spec PyProof.Rows L2 PpSet
section
variable {X : Cx}
/-- {elt for target in iter if ..}, elt a key -/
def tSk (w : World) (wi : TI) (g : TG) (tt : TT) (te : TE) (vs : List Nat) : TE := fun σ H Q => wi σ H fun J H1 => ∀ D, H1 D = none → ∃ W : Nat → Nat → Hp → Prop, (∃ m, W 0 m (upd H1 D (KO w D (fun _ => false) 0))) ∧ ∀ i m H, W i m H →
  (J.stop i H ∧ Q (.ref D) H) ∨ (J.go i H ∧ ∃ Nx : Hp → Prop, (∀ H', Nx H' → ∃ m', m' < m ∧ W (i + 1) m' H') ∧ ∀ x H', J.yld i H x H' → g x (wipe σ vs) H' fun σ2 H2 => wipe σ2 vs = wipe σ vs ∧ tt σ2 H2 fun b H3 =>
    if b = true then te σ2 H3 fun y H4 => ∃ (k : Key) (M : Key → Bool) (n : Nat), y = kV k ∧ H4 D = some (KO w D M n) ∧ n + 1 < scanBound ∧ Nx (upd H4 D (KO w D (fun j => M j || decide (j = k)) (if M k = true then n else n + 1))) else Nx H3)
theorem sk_core {pins : List (Addr × Obj)} {s : Shared} {σ : L2.St} {H : Hp} {Q : VK} {elt tg iter : Expr} {ifs : List Expr} {scope : Scope} {own : List (PySem.Str × Nat)} {p1 p2 : Pos} {wi : TI} {g : TG} {tt : TT} {te : TE} {use : Option (Value → Sem Unit)} {Qf : Value → Shared → Prop}
    (hc : X.calm = true) (hN : X.N.Nodup) (I : Inv X pins σ H s) (hi : PI X tg iter wi) (ok : BlkOk X.N X.env.scope scope own)
    (hg : ∀ (s : Shared) (H : Hp) (C : Addr) (cl : List (PySem.Str × Addr)) (fp : List Addr), PG (X.blk s H scope (compEnvC scope cl C X.env) fp) tg g)
    (ht : ∀ (s : Shared) (H : Hp) (C : Addr) (cl : List (PySem.Str × Addr)) (fp : List Addr), PTs (X.blk s H scope (compEnvC scope cl C X.env) fp) ifs tt)
    (he : ∀ (s : Shared) (H : Hp) (C : Addr) (cl : List (PySem.Str × Addr)) (fp : List Addr), PE (X.blk s H scope (compEnvC scope cl C X.env) fp) elt te)
    (hs : ∀ x, foldedSetIterable iter X.env x = pure x) (h : tSk X.w wi g tt te (own.map (·.2)) σ H Q)
    (hE : ∀ D C z m H', Inv X pins σ H' z → Q (.ref D) H' → z.heap.Ns C m → FpOk X pins H' C → compPost (model X.prog X.w) X.A X.xe use Qf (.ref D) C (.ok .next) z) :
    wpAny (model X.prog X.w) X.A (comprehension (.SetComp elt [⟨tg, iter, ifs, 0⟩] scope p1) scope X.env p2 (newSet (.type "set")) false (eval iter X.env) use) Qf X.xe s := by
  have fr : ∀ y ∈ scope.names, y.2 = .free → ∃ c, X.env.cells.lookup y.1 = some c := fun y hy e => (ok.free y hy e).elim (fun k => I.ok.has _ (.inl k)) fun k => I.ok.has _ (.inr k)
  refine wpAny_comprehension_free (use := use) rfl hs (closure_ok fr) ok.kind (fun y hy e => by rw [ok.uniq y hy, e]) (thn (hi.run pins s σ H _ I h) fun _ s1 hx => thn hx fun _ s2 ⟨it, fp, tn, J, H2, e0, I2, T, t2, f2, q⟩ => ?_)
  subst e0
  refine newSet_ok (newEnv_comp ?_)
  generalize eD : s2.heap.objs.size = D
  have nD : H2 D = none := I2.hok.fresh (Nat.le_of_eq eD)
  obtain ⟨W, ⟨m0, w0⟩, turn⟩ := q D nD
  generalize e3 : ({ s2 with heap := s2.heap.push (freshO X.w) } : Shared) = s3
  have h3 : s3.heap = s2.heap.push (freshO X.w) := by rw [← e3]
  have I3 : Inv X pins σ (upd H2 D (KO X.w D (fun _ => false) 0)) s3 := by
    rw [← e3]
    refine I2.laid (t' := s2.toks) (fun b o e => Heap.get?_push_of_some _ e) (Nat.le_of_eq eD) ?_
    rw [← eD]
    exact ko_new (fresh_at (new_at s2.heap))
  have lt : ∀ b ∈ fp, b < s2.heap.objs.size := fun b hb => let ⟨_, e, _⟩ := T.obj _ _ t2 b hb; Heap.lt_size e
  have f3 : ∀ b ∈ fp, FpOk X pins (upd H2 D (KO X.w D (fun _ => false) 0)) b ∧ b < s3.heap.objs.size := fun b hb => by
    refine ⟨⟨?_, (f2 b hb).2⟩, by rw [h3, Heap.size_push]; exact Nat.lt_succ_of_lt (lt b hb)⟩
    rw [upd_ne (by rw [← eD]; exact Nat.ne_of_lt (lt b hb))]
    exact (f2 b hb).1
  have t3 : tn 0 s3.heap := T.keep _ _ _ t2 fun b _ o e => by rw [h3]; exact Heap.get?_push_of_some _ e
  have I4 := block_start I3 ok hN f3
  have pg := hg s3 (upd H2 D (KO X.w D (fun _ => false) 0)) s3.heap.objs.size (cellsFrom (s3.heap.objs.size + 1) scope.names (cloFrom X.env.cells scope.names [])) fp
  have pt := ht s3 (upd H2 D (KO X.w D (fun _ => false) 0)) s3.heap.objs.size (cellsFrom (s3.heap.objs.size + 1) scope.names (cloFrom X.env.cells scope.names [])) fp
  have pe := he s3 (upd H2 D (KO X.w D (fun _ => false) 0)) s3.heap.objs.size (cellsFrom (s3.heap.objs.size + 1) scope.names (cloFrom X.env.cells scope.names [])) fp
  show codeAny _ _ (.compStart (.SetComp elt [⟨tg, iter, ifs, 0⟩] scope p1) 0 (.ref it) (.ref D) (compEnvC scope (cellsFrom (s3.heap.objs.size + 1) scope.names (cloFrom X.env.cells scope.names [])) s3.heap.objs.size X.env)) (compPost (model X.prog X.w) X.A X.xe use Qf (.ref D) s3.heap.objs.size) { s3 with heap := pushCells (s3.heap.push { cls := .type "dict", data := .dict #[] }) scope.names }
  have nf : ∀ b ∈ fp, (upd H2 D (KO X.w D (fun _ => false) 0)) b = none := fun b hb => (f3 b hb).1.1
  generalize ec : compEnvC scope (cellsFrom (s3.heap.objs.size + 1) scope.names (cloFrom X.env.cells scope.names [])) s3.heap.objs.size X.env = ce at I4 pg pt pe ⊢
  have eL : ce.locals = s3.heap.objs.size := by subst ec; rfl
  generalize eH : upd H2 D (KO X.w D (fun _ => false) 0) = H3 at I3 I4 pg pt pe w0 nf f3
  generalize e4 : ({ s3 with heap := pushCells (s3.heap.push { cls := .type "dict", data := .dict #[] }) scope.names } : Shared) = s4 at I4 ⊢
  have t4 : tn 0 s4.heap := T.keep _ _ _ t3 fun b _ o e => by rw [← e4]; exact pushCells_keeps _ _ _ _ (Heap.get?_push_of_some _ e)
  have stat : ∀ {σ' : L2.St} {H' : Hp} {z : Shared}, Inv (X.blk s3 H3 scope ce fp) [] σ' H' z → (∀ b ∈ fp, H' b = none) → ∀ b ∈ fp, FpOk (X.blk s3 H3 scope ce fp) [] H' b := fun I' hn b hb =>
    ⟨hn b hb, (I'.ok.exf b hb).1, I'.ok.exfs b hb, .inl hb, fun x c e => (I'.ok.exf b hb).2 x c e, fun p hp => absurd (show p ∈ ([] : List (Addr × Obj)) ++ [] from hp) (by simp)⟩
  have loop : codeAny (model X.prog X.w) X.A (.compLoop (.SetComp elt [⟨tg, iter, ifs, 0⟩] scope p1) 0 (.ref it) (.ref D) ce) (compPost (model X.prog X.w) X.A X.xe use Qf (.ref D) s3.heap.objs.size) s4 := by
    refine compLoopS_any (fun n z => ∃ i H', Inv (X.blk s3 H3 scope ce fp) [] (wipe σ (own.map (·.2))) H' z ∧ tn i z.heap ∧ (∀ b ∈ fp, H' b = none) ∧ W i n H') ?_ m0 ⟨0, H3, I4, t4, nf, w0⟩
    rintro n s5 ⟨i, H5, I5, t5, n5, w5⟩
    rcases turn i n H5 w5 with ⟨stop, qq⟩ | ⟨go, Nx, hNx, step⟩
    · refine thnF (T.done (X.blk s3 H3 scope ce fp) rfl rfl rfl hc i [] s5 _ H5 (fun _ _ => False) I5 (stat I5 n5) t5 stop) fun r s6 ⟨er, I6⟩ => ?_
      subst er
      have I7 : Inv X pins σ H5 s6 := I3.call' (ch := fp) I6.os I6.base I6.hok I6.bare fun b hb => ⟨(f3 b hb).1.2.2.2.1, (f3 b hb).1.2.1, (f3 b hb).1.2.2.2.2.1, (f3 b hb).1.2.2.2.2.2⟩
      have nC : H5 s3.heap.objs.size = none := eL ▸ I6.free
      obtain ⟨m, hn, _⟩ := I6.loc
      have hn : s6.heap.Ns ce.locals m := hn
      rw [eL] at hn
      exact hE D s3.heap.objs.size s6 m H5 I7 qq hn (I3.fpOk (Nat.le_refl _) nC)
    · refine thnF (T.item (X.blk s3 H3 scope ce fp) rfl rfl rfl hc i [] s5 _ H5 (fun _ _ => False) I5 (stat I5 n5) t5 go) fun r s6 ⟨u, er, h6⟩ => ?_
      subst er
      refine thnF h6 fun _ s7 ⟨x, H7, I7, r7, y7, t7, n7⟩ => ?_
      refine thnF (pg.run _ s7 _ H7 x u _ (I7.pinned (stat I7 n7) (T.obj _ _ t7)) r7 (step x H7 y7)) fun _ s8 ⟨σ8, H8, I8, w8, q8⟩ => ?_
      refine thnF (pt.run _ s8 σ8 H8 _ I8 q8) fun b s9 ⟨H9, I9, q9⟩ => ?_
      have fin : ∀ {z : Shared} {H' : Hp}, Inv (X.blk s3 H3 scope ce fp) ([] ++ pinsAt fp s7.heap) σ8 H' z → Nx H' → ∃ m, m < n ∧ ∃ i H', Inv (X.blk s3 H3 scope ce fp) [] (wipe σ (own.map (·.2))) H' z ∧ tn i z.heap ∧ (∀ b ∈ fp, H' b = none) ∧ W i m H' := fun {z H'} I' nx => by
        obtain ⟨m', hm, w'⟩ := hNx H' nx
        have pin : ∀ b ∈ fp, ∀ o, s7.heap.get? b = some o → z.heap.get? b = some o ∧ H' b = none := fun b hb o e =>
          let y := I'.pin (b, o) (List.mem_append_right _ (List.mem_append_right _ (mem_pinsAt hb e)))
          ⟨y.1, y.2.1⟩
        refine ⟨m', hm, i + 1, H', (I'.unpinned (pins := [])).weak (by rw [← w8, wipe_length]) (fun j v e => ?_), T.keep _ _ _ t7 fun b hb o e => (pin b hb o e).1, fun b hb => ?_, w'⟩
        · rw [← w8] at e
          exact (wipe_some e).1
        · obtain ⟨o, e, _⟩ := T.obj _ _ t7 b hb
          exact (pin b hb o e).2
      cases b with
      | false =>
        simp only [Bool.false_eq_true, if_false] at q9 ⊢
        exact fin I9 q9
      | true =>
        simp only [if_true] at q9 ⊢
        refine thnF (pe.run _ s9 σ8 H9 _ I9 q9) fun u s10 ⟨y, H10, I10, r10, k, M, c, ey, hD, room, nx⟩ => ?_
        subst ey
        have hv : keyIs k u = true := by
          cases k with
          | inl j =>
            obtain ⟨z, rfl⟩ := r10
            exact keyIs_int j z
          | inr x =>
            obtain ⟨z, rfl⟩ := r10
            exact keyIs_str x z
        exact ko_add (X := X.blk s3 H3 scope ce fp) I10 hv hD room fun s11 I11 => fin I11 nx
  exact codeAny_compStart_set loop (T.self X.A 0 _ _ _ t4 loop)
theorem pe_sk {elt tg iter : Expr} {ifs : List Expr} {scope : Scope} {own : List (PySem.Str × Nat)} {pos : Pos} {wi : TI} {g : TG} {tt : TT} {te : TE} (hc : X.calm = true) (hN : X.N.Nodup) (hi : PI X tg iter wi) (ok : BlkOk X.N X.env.scope scope own)
    (hg : ∀ (s : Shared) (H : Hp) (C : Addr) (cl : List (PySem.Str × Addr)) (fp : List Addr), PG (X.blk s H scope (compEnvC scope cl C X.env) fp) tg g)
    (ht : ∀ (s : Shared) (H : Hp) (C : Addr) (cl : List (PySem.Str × Addr)) (fp : List Addr), PTs (X.blk s H scope (compEnvC scope cl C X.env) fp) ifs tt)
    (he : ∀ (s : Shared) (H : Hp) (C : Addr) (cl : List (PySem.Str × Addr)) (fp : List Addr), PE (X.blk s H scope (compEnvC scope cl C X.env) fp) elt te) (hs : ∀ x, foldedSetIterable iter X.env x = pure x) :
    PE X (.SetComp elt [⟨tg, iter, ifs, 0⟩] scope pos) (tSk X.w wi g tt te (own.map (·.2))) := by
  refine ⟨fun pins s σ H Q I h => ?_⟩
  rw [eval_SetComp]
  refine sk_core hc hN I hi ok hg ht he hs h fun D C z m H' I' q hn f => ⟨m, hn, fun h2 sb => ?_⟩
  obtain ⟨f0, f1, _, f3, f4, f5⟩ := f
  exact ⟨.ref D, H', I'.turned (t' := z.toks) (fun b o hb e => (sb.2 b hb).trans e) f0 f1 f3 f4 f5, rfl, q⟩
end
/-! ### the order -/
def nubK : List Key → List Key
  | [] => []
  | k :: ks => if hasK ks k then nubK ks else k :: nubK ks
theorem nub_mem : ∀ {ks : List Key} {k : Key}, k ∈ nubK ks ↔ k ∈ ks
  | [], k => Iff.rfl
  | j :: ks, k => by
    unfold nubK
    by_cases c : hasK ks j = true
    · rw [if_pos c, nub_mem, List.mem_cons]
      exact ⟨.inr, fun z => z.elim (fun e => e ▸ hasK_iff.mp c) id⟩
    · rw [if_neg c, List.mem_cons, List.mem_cons, nub_mem]
theorem nub_nodup : ∀ ks : List Key, (nubK ks).Nodup
  | [] => List.nodup_nil
  | j :: ks => by
    unfold nubK
    by_cases c : hasK ks j = true
    · rw [if_pos c]; exact nub_nodup ks
    · rw [if_neg c]
      exact List.nodup_cons.mpr ⟨fun z => c (hasK_iff.mpr (nub_mem.mp z)), nub_nodup ks⟩
abbrev leK : Key → Key → Bool := PySem.W.dataLe false kP
theorem leK_int (i j : Int) : leK (.inl i) (.inl j) = decide (i ≤ j) := by
  have := congrFun (congrFun (PySem.W.dataLe_int (fun x : Int => x)) i) j
  exact this
theorem leK_str (x y : Str) : leK (.inr x) (.inr y) = decide (x.cps.toList ≤ y.cps.toList) := by
  have := congrFun (congrFun (PySem.W.dataLe_str (fun x : Str => x)) x) y
  exact this
theorem leK_anti {ks : List Key} (h : OneKind ks) : ∀ a b, a ∈ ks → b ∈ ks → leK a b = true → leK b a = true → a = b := by
  intro a b ha hb h1 h2
  rcases h with h | h
  · obtain ⟨i, rfl⟩ := h a ha
    obtain ⟨j, rfl⟩ := h b hb
    rw [leK_int, decide_eq_true_eq] at h1 h2
    rw [show i = j by omega]
  · obtain ⟨x, rfl⟩ := h a ha
    obtain ⟨y, rfl⟩ := h b hb
    rw [leK_str, decide_eq_true_eq] at h1 h2
    have e : x.cps.toList = y.cps.toList := List.le_antisymm h1 h2
    congr 1
    cases x; cases y
    simpa using e
/-- the keys in order, each once -/
noncomputable def ordK (ks : List Key) : List Key := (nubK ks).mergeSort leK
theorem leK_tot : PySem.W.TotalLe leK := PySem.W.sortLe_total _ _ _
theorem ordK_uniq {ks l : List Key} (h : OneKind ks) (nd : l.Nodup) (hm : ∀ k, k ∈ l ↔ k ∈ ks) : l.mergeSort leK = ordK ks := by
  unfold ordK
  have tr : ∀ a b c : Key, leK a b = true → leK b c = true → leK a c = true := leK_tot.trans
  have tt : ∀ a b : Key, (leK a b || leK b a) = true := fun a b => by
    rw [Bool.or_eq_true]; exact leK_tot.total a b
  have p : l.Perm (nubK ks) := (List.perm_ext_iff_of_nodup nd (nub_nodup ks)).mpr fun k => by rw [hm k, nub_mem]
  refine List.Perm.eq_of_pairwise (le := fun a b => leK a b = true) (fun a b ha hb h1 h2 => ?_) (List.pairwise_mergeSort tr tt _) (List.pairwise_mergeSort tr tt _) (((List.mergeSort_perm _ _).trans p).trans (List.mergeSort_perm _ _).symm)
  exact leK_anti h a b ((hm a).mp (List.mem_mergeSort.mp ha)) (nub_mem.mp (List.mem_mergeSort.mp hb)) h1 h2
end KS
/-! RE13f: sorted(set(xs)), sorted({e for x in it}) as functions of trees. -/
namespace RE
open PySem PySem.Spec PyProof.Rows L2 KS

def isL : Key → Bool
  | .inl _ => true
  | .inr _ => false
def oneKd (ks : List Key) : Bool := ks.all isL || ks.all fun k => !isL k
theorem oneKd_ok {ks : List Key} (h : oneKd ks = true) : OneKind ks := by
  unfold oneKd at h
  rw [Bool.or_eq_true, List.all_eq_true, List.all_eq_true] at h
  rcases h with h | h
  · refine .inl fun k hk => ?_
    have := h k hk
    cases k with
    | inl i => exact ⟨i, rfl⟩
    | inr x => cases this
  · refine .inr fun k hk => ?_
    have := h k hk
    cases k with
    | inl i => cases this
    | inr x => exact ⟨x, rfl⟩
theorem OneKind.sub {ks l : List Key} (h : OneKind ks) (hm : ∀ k ∈ l, k ∈ ks) : OneKind l := h.imp (fun h k hk => h k (hm k hk)) fun h k hk => h k (hm k hk)
/-- sorted(set(xs)) -/
noncomputable def setSortL (xs : List D) : Option D := (keysA xs).bind fun ks => if oneKd ks && decide (ks.length ≤ 900) then some (.lst ((ordK ks).map keyD)) else none
noncomputable def setSortD : D → Option D
  | .lst xs => setSortL xs
  | _ => none
theorem setSortL_some {xs : List D} {d : D} (h : setSortL xs = some d) : ∃ ks, keysA xs = some ks ∧ oneKd ks = true ∧ ks.length ≤ 900 ∧ d = .lst ((ordK ks).map keyD) := by
  obtain ⟨ks, e1, e2⟩ := Option.bind_eq_some_iff.mp h
  split at e2
  · rename_i c
    rw [Bool.and_eq_true, decide_eq_true_eq] at c
    cases e2
    exact ⟨ks, e1, c.1, c.2, rfl⟩
  · cases e2
theorem keysA_cons {d : D} {ds : List D} {ks : List Key} (h : keysA (d :: ds) = some ks) : ∃ k l, keyA d = some k ∧ keysA ds = some l ∧ ks = k :: l := by
  simp only [keysA] at h
  obtain ⟨k, e1, h⟩ := Option.bind_eq_some_iff.mp h
  obtain ⟨l, e2, h⟩ := Option.bind_eq_some_iff.mp h
  cases h
  exact ⟨k, l, e1, e2, rfl⟩
theorem rep_key {P : Addr → Prop} {H : Hp} {d : D} {k : Key} {v : V} (h : keyA d = some k) (r : Rep P H d v) : v = kV k := by
  cases d <;> simp only [keyA] at h <;> cases h <;> simpa only [Rep, kV] using r
theorem RepL.ofKeys {P : Addr → Prop} {H : Hp} : ∀ ks : List Key, RepL P H (ks.map keyD) (ks.map kV)
  | [] => by simp only [List.map_nil, RepL]
  | k :: ks => by
    simp only [List.map_cons, RepL]
    refine ⟨_, _, rfl, ?_, RepL.ofKeys ks⟩
    cases k <;> simp only [keyD, Rep, kV]
section
variable {X : Cx} {ks : Ks} {F : Fn} {pos : Pos}
theorem evN_setSort {p p2 pos2 : Pos} {e : Expr} {f : SE} (hc : X.calm = true) (hu : X.A.units + 128 < cLine) (hg : Gl X "sorted") (hm : X.mg "sorted" = none) (hg2 : Gl X "set") (hm2 : X.mg "set" = none) (hs : noStar e = true) (h : EvP X ks F e f) :
    EvN X ks F (.Call (.Name "sorted" p) [.Call (.Name "set" p2) [e] [] pos2] [] pos) (cU setSortD f) := by
  obtain ⟨t, pt, q⟩ := h.ex
  refine ⟨_, pe_callB (id := "sorted") (cr_sortK hc hu) hg hm (by decide +kernel) (pa_cons (pe_callTy (T := "set") (cr_setK hc) hg2 hm2 (by decide +kernel) (pa_cons pt pa_nil (starEach_cons (noStar_ne hs))) (by decide) (by decide) (starEach_cons (noStar_ne hs)) (by rfl)) pa_nil rfl) (by decide) (by decide) rfl (by rfl), fun σ H P ρ Q d fr er ev k => ?_⟩
  obtain ⟨x, e1, ev1⟩ := Option.bind_eq_some_iff.mp ev
  cases x <;> simp only [setSortD] at ev1 <;> first | (cases ev1; done) | skip
  obtain ⟨kl, g1, g2, g3, rfl⟩ := setSortL_some ev1
  refine q σ H P ρ _ _ fr er e1 fun v H1 s1 r1 => ?_
  obtain ⟨a, vs, rfl, h1, h2⟩ := r1.lst
  have := keysA_some g1
  subst this
  have := h2.keys
  subst this
  refine ⟨a, kl, rfl, SqL.of h1, g3, fun b c hb hcl => ?_⟩
  have s2 : Same H1 (upd H1 b (KO X.w b (hasK kl) c)) := same_new hb
  refine ⟨b, hasK kl, c, rfl, upd_same, by omega, fun l hl => OneKind.sub (oneKd_ok g2) fun k hk => hasK_iff.mp (hl k hk), fun l p nd mem hp => ?_⟩
  rw [ordK_uniq (oneKd_ok g2) nd fun k => (mem k).trans hasK_iff]
  refine k _ _ ((s1.trans s2).trans (same_new hp)) ⟨?_, topNew_ref ((s1.trans s2).free hp)⟩
  simp only [Rep]
  exact ⟨p, _, rfl, ((fr.same s1).same s2) p hp, upd_same, RepL.ofKeys _⟩
/-- sorted({e for x in it if t}) -/
noncomputable def cSs (own : List Nat) (fi : SL) (asg : SG) (t : SB) (e : SE) : SE := fun F ρ => (fi F ρ).bind fun ds => (lcAll (lcOne asg t e F (wipeE ρ own)) ds).bind setSortL
theorem keysA_app : ∀ {a b : List D} {l : List Key}, keysA (a ++ b) = some l → ∃ x y, keysA a = some x ∧ keysA b = some y ∧ l = x ++ y
  | [], b, l, h => ⟨[], l, rfl, h, rfl⟩
  | d :: a, b, l, h => by
    obtain ⟨k, m, e1, e2, rfl⟩ := keysA_cons h
    obtain ⟨x, y, g1, g2, rfl⟩ := keysA_app e2
    exact ⟨k :: x, y, by simp only [keysA, e1, g1, Option.bind_some], g2, rfl⟩
theorem evN_scSort {ks' : Ks} {p pos2 : Pos} {elt tg iter : Expr} {ifs : List Expr} {scope : Scope} {own : List (Str × Nat)} {fi : SL} {is : List Nat} {asg : SG} {ft : SB} {fe : SE} (hc : X.calm = true) (hu : X.A.units + 128 < cLine) (hN : X.N.Nodup) (hgs : Gl X "sorted") (hms : X.mg "sorted" = none)
    (hi : EvI X ks F tg iter fi) (ok : BlkOk X.N X.env.scope scope own) (his : ∀ j ∈ is, j ∈ own.map (·.2)) (hk : ∀ i, i ∉ own.map (·.2) → kd ks' i = kd ks i)
    (hg : ∀ (s : Shared) (H : Hp) (C : Addr) (cl : List (Str × Addr)) (fp : List Addr), EvG (X.blk s H scope (compEnvC scope cl C X.env) fp) ks' tg is asg)
    (ht : ∀ (s : Shared) (H : Hp) (C : Addr) (cl : List (Str × Addr)) (fp : List Addr), EvTs (X.blk s H scope (compEnvC scope cl C X.env) fp) ks' F ifs ft)
    (he : ∀ (s : Shared) (H : Hp) (C : Addr) (cl : List (Str × Addr)) (fp : List Addr), EvE (X.blk s H scope (compEnvC scope cl C X.env) fp) ks' F elt fe)
    (hs : ∀ x, foldedSetIterable iter X.env x = pure x) : EvN X ks F (.Call (.Name "sorted" p) [.SetComp elt [⟨tg, iter, ifs, 0⟩] scope pos2] [] pos) (cSs (own.map (·.2)) fi asg ft fe) := by
  obtain ⟨wi, pi, q⟩ := hi.ex
  refine ⟨_, pe_callB (id := "sorted") (cr_sortK hc hu) hgs hms (by decide +kernel) (pa_cons (pe_sk (g := tG X.mg ks' is asg) (tt := tT X.mg ks' F ft) (te := tE X.mg ks' F fe) hc hN pi ok (fun s H C cl fp => (hg s H C cl fp).can) (fun s H C cl fp => (ht s H C cl fp).can) (fun s H C cl fp => (he s H C cl fp).can) hs) pa_nil rfl) (by decide) (by decide) rfl (by rfl), fun σ H P ρ Q d fr er ev k => ?_⟩
  obtain ⟨ds, e1, ev1⟩ := Option.bind_eq_some_iff.mp ev
  obtain ⟨outs, e2, ev2⟩ := Option.bind_eq_some_iff.mp ev1
  obtain ⟨kl, g1, g2, g3, rfl⟩ := setSortL_some ev2
  refine q σ H P ρ _ ds fr er e1 fun J H1 src s1 wk top Dl hD => ?_
  have fr1 := fr.same s1
  have er1 := er.same s1
  have wk := wk (fun b => P b ∧ b ≠ Dl) fun a ha pa => ⟨pa, fun e => ha (e ▸ hD)⟩
  have kept : ∀ H2, (∀ b o, H1 b = some o → H2 b = some o) → Kept (fun b => P b ∧ b ≠ Dl) src H1 H2 := fun H2 h b o e _ => h b o e
  let Pv : Nat → Hp → Prop := fun i H2 => ∃ pre l n, lcAll (lcOne asg ft fe F (wipeE ρ (own.map (·.2)))) (ds.take i) = some pre ∧ keysA pre = some l ∧ n ≤ l.length ∧ H2 Dl = some (KO X.w Dl (hasK l) n) ∧ ∀ b o, H1 b = some o → H2 b = some o
  refine it_gen (n := ds.length) (Pv := Pv) ?_ ?_ ?_ ?_
  · refine ⟨[], [], 0, by simp [lcAll], rfl, Nat.le_refl _, upd_same, fun b o e => ?_⟩
    rw [upd_ne (ne_of_none e hD)]; exact e
  · rintro i H2 hi ⟨pre, l, n, _, _, _, _, h⟩
    exact wk.goes H2 i (kept H2 h) hi
  · rintro H2 ⟨pre, l, n, hpre, hl, hn, hDl, hkp⟩
    refine ⟨wk.stops H2 (kept H2 hkp), ?_⟩
    rw [List.take_length, e2] at hpre
    cases hpre
    rw [g1] at hl
    cases hl
    refine ⟨Dl, hasK kl, n, rfl, hDl, by omega, fun l hl => OneKind.sub (oneKd_ok g2) fun k hk => hasK_iff.mp (hl k hk), fun l p nd mem hp => ?_⟩
    rw [ordK_uniq (oneKd_ok g2) nd fun k => (mem k).trans hasK_iff]
    have s2 : Same H1 H2 := hkp
    refine k _ _ ((s1.trans s2).trans (same_new hp)) ⟨?_, topNew_ref ((s1.trans s2).free hp)⟩
    simp only [Rep]
    exact ⟨p, _, rfl, (fr1.same s2) p hp, upd_same, RepL.ofKeys _⟩
  · rintro i x H2 H3 hi ⟨pre, l, n, hpre, hl, hn, hDl, hkp⟩ yl
    obtain ⟨s3, d, hd, rd⟩ := wk.yields H2 i x H3 (kept H2 hkp) hi yl
    have e3 : ds.take (i + 1) = ds.take i ++ [d] := by rw [List.take_add_one, hd]; rfl
    obtain ⟨pre', post, e4, e5⟩ := lcAll_take e2 (i + 1)
    have e4' := e4
    rw [e3, lcAll_snoc, hpre] at e4
    simp only [Option.bind_some] at e4
    obtain ⟨ys, e6, rfl⟩ := Option.map_eq_some_iff.mp e4
    obtain ⟨ρ', e7, e8⟩ := Option.bind_eq_some_iff.mp e6
    obtain ⟨b, e9, e10⟩ := Option.bind_eq_some_iff.mp e8
    have hD3 : H3 Dl = some (KO X.w Dl (hasK l) n) := s3 _ _ hDl
    have all3 : ∀ b o, H1 b = some o → H3 b = some o := fun b o e => s3 b o (hkp b o e)
    have fr3 : Fre (fun b => P b ∧ b ≠ Dl) H3 := fre_minus (fr1.same all3) (by rw [hD3]; simp)
    have er3 : ER X.mg (fun b => P b ∧ b ≠ Dl) ks' H3 (L2.wipe σ (own.map (·.2))) (wipeE ρ (own.map (·.2))) := ER.wipe (er1.mono all3 fun a ha pa => ⟨pa, fun e => ha (e ▸ hD)⟩) hk
    refine ⟨_, _, _, d, rd, er3, e7, fun σ' er' hl' hj => ⟨wipe_eq hl' hj his, ?_⟩⟩
    refine ⟨_, ρ', b, fr3, er', e9, fun H4 s4 => ?_⟩
    have all4 : ∀ b o, H1 b = some o → H4 b = some o := fun b o e => s4 b o (all3 b o e)
    cases b with
    | false =>
      rw [if_neg Bool.false_ne_true] at e10
      refine iteF ?_
      cases e10
      exact ⟨pre ++ [], l, n, e4', by rw [List.append_nil]; exact hl, hn, s4 _ _ hD3, all4⟩
    | true =>
      rw [if_pos rfl] at e10
      refine iteT ?_
      obtain ⟨y, e11, rfl⟩ := Option.map_eq_some_iff.mp e10
      refine ⟨_, ρ', y, fr3.same s4, er'.same s4, e11, fun v H5 s5 r5 => ?_⟩
      rw [e5] at g1
      obtain ⟨l1, l2, m1, _, e12⟩ := keysA_app g1
      obtain ⟨l3, l4, m3, m4, e13⟩ := keysA_app m1
      rw [hl] at m3
      cases m3
      obtain ⟨kk, l5, m5, m6, rfl⟩ := keysA_cons m4
      simp only [keysA] at m6
      cases m6
      have hD5 : H5 Dl = some (KO X.w Dl (hasK l) n) := s5 _ _ (s4 _ _ hD3)
      have ev := rep_key m5 r5
      subst ev
      have len : l.length + 1 ≤ kl.length := by rw [e12, e13]; simp only [List.length_append, List.length_cons, List.length_nil]; omega
      refine ⟨kk, hasK l, n, rfl, hD5, by unfold scanBound; omega, pre ++ [y], l1, (if hasK l kk = true then n else n + 1), e4', m1, ?_, ?_, fun b o e => ?_⟩
      · rw [e13, List.length_append, List.length_singleton]; split <;> omega
      · rw [upd_same, e13]
        congr 2
        funext j
        exact (hasK_app l kk j).symm
      · rw [upd_ne (ne_of_none e hD)]
        exact s5 b o (all4 b o e)
end
end RE
/-! RE13g: the least of a list of alike data, as it stands. -/
namespace RE
open PySem PySem.Spec PyProof.Rows L2

mutual
theorem toP_inj : ∀ (n m : Nat) (d e : D), pd n d = true → pd m e = true → toP d = toP e → d = e
  | n, m, .non, e, h1, h2, h => by cases e <;> simp [toP] at h <;> first | rfl | (cases m <;> simp [pd] at h2)
  | n, m, .bl b, e, h1, h2, h => by cases e <;> simp [toP] at h; rw [h]
  | n, m, .int b, e, h1, h2, h => by cases e <;> simp [toP] at h; rw [h]
  | n, m, .str b, e, h1, h2, h => by cases e <;> simp [toP] at h; rw [h]
  | 0, m, .tup xs, e, h1, h2, h => by simp [pd] at h1
  | 0, m, .lst xs, e, h1, h2, h => by simp [pd] at h1
  | n + 1, m, .tup xs, e, h1, h2, h => by
    cases e <;> simp [toP] at h
    rename_i ys
    cases m with
    | zero => simp [pd] at h2
    | succ m =>
      simp only [pd] at h1 h2
      rw [toPs_inj n m xs ys h1 h2 h]
  | n + 1, m, .lst xs, e, h1, h2, h => by
    cases e <;> simp [toP] at h
    rename_i ys
    cases m with
    | zero => simp [pd] at h2
    | succ m =>
      simp only [pd] at h1 h2
      rw [toPs_inj n m xs ys h1 h2 h]
  | n, m, .dic t x, e, h1, h2, h => by cases n <;> simp [pd] at h1
  | n, m, .scr x, e, h1, h2, h => by cases n <;> simp [pd] at h1
  | n, m, .fn x, e, h1, h2, h => by cases n <;> simp [pd] at h1
theorem toPs_inj : ∀ (n m : Nat) (d e : List D), d.all (pd n) = true → e.all (pd m) = true → toPs d = toPs e → d = e
  | n, m, [], [], _, _, _ => rfl
  | n, m, [], y :: ys, _, _, h => by simp [toPs] at h
  | n, m, x :: xs, [], _, _, h => by simp [toPs] at h
  | n, m, x :: xs, y :: ys, h1, h2, h => by
    simp only [toPs, List.cons.injEq] at h
    rw [List.all_cons, Bool.and_eq_true] at h1 h2
    rw [toP_inj n m x y h1.1 h2.1 h.1, toPs_inj n m xs ys h1.2 h2.2 h.2]
end
/-- the first of the least -/
def dMinL (x : D) (xs : List D) : D := xs.foldl (fun a y => if PySem.W.dataLt (toP y) (toP a) then y else a) x
theorem dMin_toP : ∀ (xs : List D) (x : D), toP (dMinL x xs) = PySem.W.minD (toP x) (xs.map toP)
  | [], x => rfl
  | y :: xs, x => by
    unfold dMinL PySem.W.minD
    rw [List.foldl_cons, List.map_cons, List.foldl_cons]
    have := dMin_toP xs (if PySem.W.dataLt (toP y) (toP x) then y else x)
    unfold dMinL PySem.W.minD at this
    rw [this]
    congr 1
    split <;> rfl
theorem dMin_mem : ∀ (xs : List D) (x : D), dMinL x xs ∈ x :: xs
  | [], x => List.mem_cons_self
  | y :: xs, x => by
    unfold dMinL
    rw [List.foldl_cons]
    have := dMin_mem xs (if PySem.W.dataLt (toP y) (toP x) then y else x)
    unfold dMinL at this
    rcases List.mem_cons.mp this with h | h
    · rw [h]
      split
      · simp
      · simp
    · exact List.mem_cons_of_mem _ (List.mem_cons_of_mem _ h)
def minDD : D → Option D
  | .lst (x :: xs) => if sortOk (x :: xs) then some (dMinL x xs) else none
  | _ => none
def rMinD (K : PySem.W.Frag) : List V → Hp → VK → Prop := fun vs H Q => ∃ (a : Addr) (p : D × V) (ps : List (D × V)), vs = [V.ref a] ∧ SqL K H a ((p :: ps).map (·.2)) ∧ (∀ q ∈ p :: ps, Dp K H q.2 (toP q.1)) ∧ PySem.W.AlikeAll ((p :: ps).map fun q => toP q.1) ∧ PyData.depthAll ((p :: ps).map fun q => toP q.1) ≤ 60 ∧
  ∀ q ∈ p :: ps, toP q.1 = PySem.W.minD (toP p.1) (ps.map fun q => toP q.1) → Q q.2 H
theorem vals_at : ∀ {vs : List V} {us : List Value}, Vals vs us → ∀ (i : Nat) (u : Value), us[i]? = some u → ∃ v, vs[i]? = some v ∧ RelV v u
  | _, _, .nil, i, u, h => by simp at h
  | _, _, .cons r t, 0, u, h => by cases h; exact ⟨_, rfl, r⟩
  | _, _, .cons r t, i + 1, u, h => by
    obtain ⟨v, e, r'⟩ := vals_at t i u (by simpa using h)
    exact ⟨v, by simpa using e, r'⟩
theorem dpAll_of {K : PySem.W.Frag} {H : Hp} : ∀ {ps : List (D × V)}, (∀ q ∈ ps, Dp K H q.2 (toP q.1)) → DpAll K H (ps.map (·.2)) (ps.map fun q => toP q.1)
  | [], _ => .nil
  | p :: ps, h => .cons (h p List.mem_cons_self) (dpAll_of fun q hq => h q (List.mem_cons_of_mem _ hq))
theorem cr_minD {X : Cx} (hc : X.calm = true) (hu : X.A.units + 128 < cLine) : CallR X (.builtin "min") (rMinD X.K) := by
  intro pins s σ H vs us Q I r h
  obtain ⟨a, p, ps, rfl, hs, hd, hal, hdep, q⟩ := h
  obtain ⟨its, rv, hl, _⟩ := I.list hs
  rw [Vals.ref1 r]
  obtain ⟨as, hr⟩ := Dp.readsAll I _ _ _ (dpAll_of hd) rv
  rw [List.map_cons] at hr hal hdep
  refine PySem.W.min_list_data (I.ok.hd hc) hl.isList (by simpa using hr) hal (by omega) fun i v h' tk bs hv hrd hk => ?_
  obtain ⟨w, ew, rw'⟩ := vals_at rv i v (by simpa using hv)
  rw [List.getElem?_map] at ew
  cases hq : (p :: ps)[i]? with
  | none => rw [hq] at ew; cases ew
  | some z =>
    rw [hq] at ew
    cases ew
    have hz := List.mem_of_getElem? hq
    obtain ⟨cs, r2⟩ := Dp.reads I _ _ _ (hd z hz) rw'
    exact ⟨z.2, H, I.kept hk, rw', q z hz (PySem.Reads.unique (Reads.keeps hk r2) _ _ hrd).1⟩
section
variable {X : Cx} {ks : Ks} {F : Fn} {pos : Pos}
theorem depthAll_le {n : Nat} : ∀ {xs : List PyData}, (∀ x ∈ xs, x.depth ≤ n) → PyData.depthAll xs ≤ n
  | [], _ => by simp [PyData.depthAll]
  | x :: xs, h => by
    simp only [PyData.depthAll]
    exact Nat.max_le.mpr ⟨h x List.mem_cons_self, depthAll_le fun y hy => h y (List.mem_cons_of_mem _ hy)⟩
theorem evE_min {p : Pos} {e : Expr} {f : SE} (hc : X.calm = true) (hu : X.A.units + 128 < cLine) (hg : Gl X "min") (hm : X.mg "min" = none) (hs : noStar e = true) (h : EvP X ks F e f) :
    EvE X ks F (.Call (.Name "min" p) [e] [] pos) (cU minDD f) := by
  obtain ⟨t, pt, q⟩ := h.ex
  refine ⟨_, pe_callB (id := "min") (cr_minD hc hu) hg hm (by decide +kernel) (pa_cons pt pa_nil (starEach_cons (noStar_ne hs))) (by decide) (by decide) (starEach_cons (noStar_ne hs)) (by rfl), fun σ H P ρ Q d fr er ev k => ?_⟩
  obtain ⟨x, e1, ev⟩ := Option.bind_eq_some_iff.mp ev
  refine q σ H P ρ _ x fr er e1 fun v H1 s1 r1 => ?_
  cases x <;> simp only [minDD] at ev <;> first | (cases ev; done) | skip
  rename_i xs
  cases xs with
  | nil => cases ev
  | cons x xs =>
    simp only at ev
    split at ev
    · rename_i c
      cases ev
      unfold sortOk at c
      simp only [Bool.and_eq_true, Bool.or_eq_true] at c
      obtain ⟨⟨c1, c2⟩, c3, c4⟩ := c
      obtain ⟨a, vs, rfl, h1, h2⟩ := r1.lst
      obtain ⟨ps, e1', rfl, h3⟩ := h2.pairs
      cases ps with
      | nil => cases e1'
      | cons p' ps =>
        rw [List.map_cons, List.cons.injEq] at e1'
        obtain ⟨rfl, rfl⟩ := e1'
        have hp : ∀ q ∈ p' :: ps, q.1 ∈ p'.1 :: ps.map (·.1) := fun q hq => by
          have := List.mem_map.mpr ⟨q, hq, (rfl : q.1 = q.1)⟩
          rwa [List.map_cons] at this
        rw [List.all_eq_true] at c1 c3
        refine ⟨a, p', ps, rfl, SqL.of h1, fun q hq => (h3 q hq).toB.dp (mg := X.mg) (c1 _ (hp q hq)), ⟨?_, ?_⟩, depthAll_le ?_, fun q hq eq => ?_⟩
        · intro d hd d' hd'
          obtain ⟨p1, hp1, rfl⟩ := List.mem_map.mp hd
          obtain ⟨p2, hp2, rfl⟩ := List.mem_map.mp hd'
          have := c3 _ (hp p1 hp1)
          rw [List.all_eq_true] at this
          exact this _ (hp p2 hp2)
        · intro d hd
          obtain ⟨p1, hp1, rfl⟩ := List.mem_map.mp hd
          have h5 := c1 _ (hp p1 hp1)
          have h6 : isTup1 p1.1 = true ∨ notTN p1.1 = true := by
            rcases c4 with c4 | c4
            · rw [List.all_eq_true] at c4; exact .inl (c4 _ (hp p1 hp1))
            · rw [List.all_eq_true] at c4; exact .inr (c4 _ (hp p1 hp1))
          generalize p1.1 = z at h5 h6
          cases z with
          | non => rcases h6 with h6 | h6 <;> cases h6
          | dic _ _ => simp [pd] at h5
          | scr _ => simp [pd] at h5
          | fn _ => simp [pd] at h5
          | tup l => simp [toP]
          | bl b => simp [toP]
          | int b => simp [toP]
          | str b => simp [toP]
          | lst b => simp [toP]
        · intro d hd
          obtain ⟨p1, hp1, rfl⟩ := List.mem_map.mp hd
          exact (pd_ok _ _ (c1 _ (hp p1 hp1))).2
        · have e3 : q.1 = dMinL p'.1 (ps.map (·.1)) := by
            refine toP_inj 60 60 _ _ (c1 _ (hp q hq)) (c1 _ (dMin_mem _ _)) ?_
            rw [dMin_toP, List.map_map]
            exact eq
          refine k _ H1 s1 ?_
          rw [← e3]
          exact h3 q hq
    · cases ev
end
end RE
/-! RE13h: dicts walked by their keys: locked meanwhile. -/
namespace RE
open PySem PySem.Spec PyProof.Rows L2

def isDO : HO → Prop
  | .dK _ => True
  | .dT _ => True
  | _ => False
theorem isDO.mut {u : HO} (h : isDO u) : L2.Mut (some u) := by cases u <;> first | exact h.elim | trivial
/-- what the locking or unlocking of a dict leaves -/
structure Lck (H H' : Hp) : Prop where
  tup : ∀ b vs, H b = some (.tup vs) → H' b = some (.tup vs)
  lst : ∀ b vs, H b = some (.lst vs) → H' b = some (.lst vs)
  scr : ∀ b o ns, H b = some (.frz o (.lst ns)) → H' b = some (.frz o (.lst ns))
  dk : ∀ b ks, Rd H b (.dK ks) → Rd H' b (.dK ks)
  dt : ∀ b ks, Rd H b (.dT ks) → Rd H' b (.dT ks)
  free : ∀ b, H' b = none → H b = none
theorem lck_on {H : Hp} {a : Addr} {u : HO} (h : H a = some u) (hu : isDO u) (od : Obj) : Lck H (upd H a (.frz od u)) where
  tup := fun b vs e => by
    rw [upd_ne (fun z => by rw [z, h] at e; cases e; exact hu)]; exact e
  lst := fun b vs e => by
    rw [upd_ne (fun z => by rw [z, h] at e; cases e; exact hu)]; exact e
  scr := fun b o ns e => by
    rw [upd_ne (fun z => by rw [z, h] at e; cases e; exact hu)]; exact e
  dk := fun b ks r => by
    by_cases c : b = a
    · subst c
      rcases r with r | ⟨o, r⟩ <;> rw [h] at r <;> cases r
      · exact .inr ⟨od, upd_same⟩
      · exact hu.elim
    · rcases r with r | ⟨o, r⟩
      · exact .inl (by rw [L2.upd_ne c]; exact r)
      · exact .inr ⟨o, by rw [L2.upd_ne c]; exact r⟩
  dt := fun b ks r => by
    by_cases c : b = a
    · subst c
      rcases r with r | ⟨o, r⟩ <;> rw [h] at r <;> cases r
      · exact .inr ⟨od, upd_same⟩
      · exact hu.elim
    · rcases r with r | ⟨o, r⟩
      · exact .inl (by rw [L2.upd_ne c]; exact r)
      · exact .inr ⟨o, by rw [L2.upd_ne c]; exact r⟩
  free := fun b e => by
    by_cases c : b = a
    · subst c; rw [upd_same] at e; cases e
    · rwa [L2.upd_ne c] at e
theorem lck_off {H : Hp} {a : Addr} {u : HO} {od : Obj} (h : H a = some (.frz od u)) (hu : isDO u) : Lck H (upd H a u) where
  tup := fun b vs e => by
    rw [upd_ne (fun z => by rw [z, h] at e; cases e)]; exact e
  lst := fun b vs e => by
    rw [upd_ne (fun z => by rw [z, h] at e; cases e)]; exact e
  scr := fun b o ns e => by
    rw [upd_ne (fun z => by rw [z, h] at e; cases e; exact hu)]; exact e
  dk := fun b ks r => by
    by_cases c : b = a
    · subst c
      rcases r with r | ⟨o, r⟩ <;> rw [h] at r <;> cases r
      exact .inl upd_same
    · rcases r with r | ⟨o, r⟩
      · exact .inl (by rw [L2.upd_ne c]; exact r)
      · exact .inr ⟨o, by rw [L2.upd_ne c]; exact r⟩
  dt := fun b ks r => by
    by_cases c : b = a
    · subst c
      rcases r with r | ⟨o, r⟩ <;> rw [h] at r <;> cases r
      exact .inl upd_same
    · rcases r with r | ⟨o, r⟩
      · exact .inl (by rw [L2.upd_ne c]; exact r)
      · exact .inr ⟨o, by rw [L2.upd_ne c]; exact r⟩
  free := fun b e => by
    by_cases c : b = a
    · subst c; rw [upd_same] at e; cases e
    · rwa [L2.upd_ne c] at e
theorem HD.lck {H H' : Hp} (l : Lck H H') {t : Bool} {a : Addr} {ps : List (D × V)} (h : HD t H a ps) : HD t H' a ps := by
  cases t <;> obtain ⟨ks, r, e⟩ := h
  · exact ⟨ks, l.dk _ _ r, e⟩
  · exact ⟨ks, l.dt _ _ r, e⟩
mutual
theorem Rep.lck {P : Addr → Prop} {H H' : Hp} (l : Lck H H') : ∀ (d : D) (v : V), Rep P H d v → Rep P H' d v
  | .non, v, h => by unfold Rep at h ⊢; exact h
  | .bl b, v, h => by unfold Rep at h ⊢; exact h
  | .int i, v, h => by unfold Rep at h ⊢; exact h
  | .str x, v, h => by unfold Rep at h ⊢; exact h
  | .tup ds, v, h => by
    unfold Rep at h ⊢
    obtain ⟨a, vs, e, h1, h2⟩ := h
    exact ⟨a, vs, e, l.tup _ _ h1, RepL.lck l ds vs h2⟩
  | .lst ds, v, h => by
    unfold Rep at h ⊢
    obtain ⟨a, vs, e, h0, h1, h2⟩ := h
    exact ⟨a, vs, e, h0, l.lst _ _ h1, RepL.lck l ds vs h2⟩
  | .dic t kvs, v, h => by
    unfold Rep at h ⊢
    obtain ⟨a, ps, e, h0, h1, h2⟩ := h
    exact ⟨a, ps, e, h0, h1.lck l, RepKV.lck l kvs ps h2⟩
  | .scr ns, v, h => by
    unfold Rep at h ⊢
    obtain ⟨a, o, e, h1⟩ := h
    exact ⟨a, o, e, l.scr _ _ _ h1⟩
  | .fn f, v, h => by unfold Rep at h; exact h.elim
theorem RepL.lck {P : Addr → Prop} {H H' : Hp} (l : Lck H H') : ∀ (ds : List D) (vs : List V), RepL P H ds vs → RepL P H' ds vs
  | [], vs, h => by unfold RepL at h ⊢; exact h
  | d :: ds, vs, h => by
    unfold RepL at h ⊢
    obtain ⟨v, r, e, h1, h2⟩ := h
    exact ⟨v, r, e, Rep.lck l d v h1, RepL.lck l ds r h2⟩
theorem RepKV.lck {P : Addr → Prop} {H H' : Hp} (l : Lck H H') : ∀ (kvs : List (D × D)) (ps : List (D × V)), RepKV P H kvs ps → RepKV P H' kvs ps
  | [], ps, h => by unfold RepKV at h ⊢; exact h
  | (k, d) :: kvs, ps, h => by
    unfold RepKV at h ⊢
    obtain ⟨v, r, e, h1, h2⟩ := h
    exact ⟨v, r, e, Rep.lck l d v h1, RepKV.lck l kvs r h2⟩
end
theorem RepB.lck {mg : Str → Option Value} {P : Addr → Prop} {H H' : Hp} {d : D} {v : V} (l : Lck H H') (h : RepB mg P H d v) : RepB mg P H' d v := by
  cases d <;> simp only [RepB] at h ⊢ <;> first | exact h | exact Rep.lck l _ _ h | skip
  · obtain ⟨a, vs, e, h1, h2⟩ := h; exact ⟨a, vs, e, l.lst _ _ h1, RepL.lck l _ _ h2⟩
  · obtain ⟨a, vs, e, h1, h2⟩ := h; exact ⟨a, vs, e, h1.lck l, RepKV.lck l _ _ h2⟩
theorem RepK.lck {mg : Str → Option Value} {P : Addr → Prop} {H H' : Hp} {k : Kind} {d : D} {v : V} (l : Lck H H') (h : RepK mg P H k d v) : RepK mg P H' k d v := by
  cases k with
  | F => exact Rep.lck l _ _ h
  | M => exact RepB.lck l h
  | L => exact RepB.lck l h
  | B => exact RepB.lck l h
theorem ER.lck {mg : Str → Option Value} {P : Addr → Prop} {ks : Ks} {H H' : Hp} {σ : L2.St} {ρ : RE.Env} (l : Lck H H') (h : ER mg P ks H σ ρ) : ER mg P ks H' σ ρ := ⟨h.1, fun i d e =>
  let ⟨v, e1, r⟩ := h.2 i d e
  ⟨v, e1, r.lck l⟩⟩
theorem Fre.lck {P : Addr → Prop} {H H' : Hp} (l : Lck H H') (f : Fre P H) : Fre P H' := fun a h => f a (l.free a h)
/-- the dict in slot i is locked -/
def LockAt (i : Nat) (σ : L2.St) (H : Hp) : Prop := ∃ a o u, σ[i]? = some (some (.ref a)) ∧ H a = some (.frz o u)
structure EvIx (L : L2.St → Hp → Prop) (X : Cx) (ks : Ks) (F : Fn) (tg iter : Expr) (f : SL) : Prop where
  ex : ∃ wi : TI, PI X tg iter wi ∧ ∀ σ H, L σ H → ∀ (P : Addr → Prop) (ρ : RE.Env) (R : It → Hp → Prop) (ds : List D), Fre P H → ER X.mg P ks H σ ρ → f F ρ = some ds →
    (∀ J H1 src, Same H H1 → (∀ P', (∀ a, H1 a ≠ none → P a → P' a) → WalkD P' src J ds H1) → (∀ a ∈ src, Top ks σ ρ P a) → R J H1) → wi σ H R
/-- the keys of the dict in slot i -/
def cKeys (i : Nat) : SL := fun _ ρ => match ρ[i]? with
  | some (some (.dic _ kvs)) => some (kvs.map (·.1))
  | _ => none
theorem cKeys_some {i : Nat} {F : Fn} {ρ : RE.Env} {ds : List D} (h : cKeys i F ρ = some ds) : ∃ t kvs, ρ[i]? = some (some (.dic t kvs)) ∧ ds = kvs.map (·.1) := by
  unfold cKeys at h
  split at h
  · rename_i t kvs e
    cases h
    exact ⟨t, kvs, e, rfl⟩
  · cases h
theorem RepKV.keys {P : Addr → Prop} {H : Hp} : ∀ {kvs : List (D × D)} {ps : List (D × V)}, RepKV P H kvs ps → kvs.map (·.1) = ps.map (·.1)
  | [], ps, h => by unfold RepKV at h; rw [h]; rfl
  | (k, d) :: kvs, ps, h => by
    unfold RepKV at h
    obtain ⟨v, r, e, h1, h2⟩ := h
    rw [e, List.map_cons, List.map_cons, RepKV.keys h2]
theorem rep_keyV {P : Addr → Prop} {H : Hp} (k : Key) : Rep P H (keyD k) (kV k) := by cases k <;> simp only [keyD, Rep, kV]
theorem repL_keys {P : Addr → Prop} {H : Hp} : ∀ ks : List Key, RepL P H (ks.map keyD) (ks.map kV)
  | [] => by simp only [List.map_nil, RepL]
  | k :: ks => by
    simp only [List.map_cons, RepL]
    exact ⟨_, _, rfl, rep_keyV k, repL_keys ks⟩
theorem evIx_keys {X : Cx} {ks : Ks} {F : Fn} {tg : Expr} {pos : Pos} {i : Nat} {x : Str} (hN : X.N[i]? = some x) (hv : Vis X.env.scope x) (hd : (x == ("__debug__" : Str)) = false) (hcd : (x == ("__classdict__" : Str)) = false) :
    EvIx (LockAt i) X ks F tg (.Name x pos) (cKeys i) := by
  refine ⟨_, pi_keys (pe_var hN hv hd hcd), fun σ H hL P ρ R ds fr er ev k => ?_⟩
  obtain ⟨t, kvs, e1, rfl⟩ := cKeys_some ev
  obtain ⟨v, e2, r⟩ := er.2 i _ e1
  obtain ⟨a, o, u, e3, ha⟩ := hL
  rw [e2] at e3; cases e3
  refine ⟨.ref a, e2, a, o, rfl, ?_⟩
  obtain ⟨b, ps, eb, hh, hkv⟩ := r.toB.dic
  cases eb
  have hkeys := hkv.keys
  cases t with
  | false =>
    obtain ⟨kk, rd, rfl⟩ := hh
    rcases rd with rd | ⟨o', rd⟩
    · rw [ha] at rd; cases rd
    · rw [ha] at rd; cases rd
      refine .inl ⟨kk, ha, k _ H [] (Same.refl H) (fun P2 hp2 => ⟨by simp, fun H2 j kp hj => ?_, fun H2 kp => ?_, fun H2 j x H3 kp hj y => ?_⟩) (by simp)⟩
      · refine ⟨kp _ _ ha (.inr (.inl fun z => z)), ?_⟩
        rw [hkeys, List.length_map, List.length_map] at hj; exact hj
      · refine ⟨kp _ _ ha (.inr (.inl fun z => z)), ?_⟩
        rw [hkeys, List.length_map, List.length_map]; exact Nat.le_refl _
      · obtain ⟨rfl, q, w, e4, rfl⟩ := y
        refine ⟨Same.refl _, keyD q, ?_, rep_keyV q⟩
        rw [hkeys, List.map_map, List.getElem?_map, e4]
        rfl
  | true =>
    obtain ⟨kk, rd, rfl⟩ := hh
    rcases rd with rd | ⟨o', rd⟩
    · rw [ha] at rd; cases rd
    · rw [ha] at rd; cases rd
      refine .inr ⟨kk, ha, k _ H [] (Same.refl H) (fun P2 hp2 => ⟨by simp, fun H2 j kp hj => ?_, fun H2 kp => ?_, fun H2 j x H3 kp hj y => ?_⟩) (by simp)⟩
      · refine ⟨kp _ _ ha (.inr (.inl fun z => z)), ?_⟩
        rw [hkeys, List.length_map, List.length_map] at hj; exact hj
      · refine ⟨kp _ _ ha (.inr (.inl fun z => z)), ?_⟩
        rw [hkeys, List.length_map, List.length_map]; exact Nat.le_refl _
      · obtain ⟨rfl, q, w, p, e4, rfl, e5⟩ := y
        refine ⟨Same.refl _, .tup (q.map keyD), ?_, ?_⟩
        · rw [hkeys, List.map_map, List.getElem?_map, e4]
          rfl
        · simp only [Rep]
          exact ⟨p, _, rfl, e5, repL_keys q⟩
theorem evx_lc {L : L2.St → Hp → Prop} {X : Cx} {ks ks' : Ks} {F : Fn} {elt tg iter : Expr} {ifs : List Expr} {scope : Scope} {own : List (Str × Nat)} {pos : Pos} {fi : SL} {is : List Nat} {asg : SG} {ft : SB} {fe : SE} (hc : X.calm = true) (hN : X.N.Nodup)
    (hi : EvIx L X ks F tg iter fi) (ok : BlkOk X.N X.env.scope scope own) (his : ∀ j ∈ is, j ∈ own.map (·.2)) (hk : ∀ i, i ∉ own.map (·.2) → kd ks' i = kd ks i)
    (hg : ∀ (s : Shared) (H : Hp) (C : Addr) (cl : List (Str × Addr)) (fp : List Addr), EvG (X.blk s H scope (compEnvC scope cl C X.env) fp) ks' tg is asg)
    (ht : ∀ (s : Shared) (H : Hp) (C : Addr) (cl : List (Str × Addr)) (fp : List Addr), EvTs (X.blk s H scope (compEnvC scope cl C X.env) fp) ks' F ifs ft)
    (he : ∀ (s : Shared) (H : Hp) (C : Addr) (cl : List (Str × Addr)) (fp : List Addr), EvE (X.blk s H scope (compEnvC scope cl C X.env) fp) ks' F elt fe)
    (hs : ∀ x, foldedSetIterable iter X.env x = pure x) : ∃ t : TE, PE X (.ListComp elt [⟨tg, iter, ifs, 0⟩] scope pos) t ∧ ∀ σ H, L σ H → Cn X.mg H ks F (cLc (own.map (·.2)) fi asg ft fe) σ (fun P d v H' => Rep P H' d v ∧ TopNew H d v) t := by
  obtain ⟨wi, pi, q⟩ := hi.ex
  refine ⟨_, pe_lc (g := tG X.mg ks' is asg) (tt := tT X.mg ks' F ft) (te := tE X.mg ks' F fe) hc hN pi ok (fun s H C cl fp => (hg s H C cl fp).can) (fun s H C cl fp => (ht s H C cl fp).can) (fun s H C cl fp => (he s H C cl fp).can) hs, fun σ H hL P ρ Q d fr er ev k => ?_⟩
  obtain ⟨ds, e1, ev1⟩ := Option.bind_eq_some_iff.mp ev
  obtain ⟨outs, e2, ev2⟩ := Option.bind_eq_some_iff.mp ev1
  obtain ⟨rfl, hlen⟩ := mkLst_some ev2
  refine q σ H hL P ρ _ ds fr er e1 fun J H1 src s1 wk top Dl hD => ?_
  have fr1 := fr.same s1
  have er1 := er.same s1
  have wk := wk (fun b => P b ∧ b ≠ Dl) fun a ha pa => ⟨pa, fun e => ha (e ▸ hD)⟩
  have kept : ∀ H2, (∀ b o, H1 b = some o → H2 b = some o) → Kept (fun b => P b ∧ b ≠ Dl) src H1 H2 := fun H2 h b o e _ => h b o e
  refine lc_it (n := ds.length) (G := fun H2 => Kept (fun b => P b ∧ b ≠ Dl) src H1 H2) (Y := fun i H2 x H3 => Same H2 H3 ∧ ∃ d, ds[i]? = some d ∧ Rep (fun b => P b ∧ b ≠ Dl) H3 d x) ⟨fun i H2 hi g => wk.goes H2 i g hi, fun H2 g => wk.stops H2 g, fun i H2 x H3 hi g y => wk.yields H2 i x H3 g hi y⟩
    (fun i H2 => ∃ vs pre, lcAll (lcOne asg ft fe F (wipeE ρ (own.map (·.2)))) (ds.take i) = some pre ∧ H2 Dl = some (.lst vs) ∧ RepL (fun b => P b ∧ b ≠ Dl) H2 pre vs ∧ ∀ b o, H1 b = some o → H2 b = some o) ?_ ?_ ?_ ?_
  · refine ⟨[], [], by simp [lcAll], upd_same, by simp [RepL], fun b o e => ?_⟩
    rw [upd_ne (ne_of_none e hD)]; exact e
  · rintro i H2 _ ⟨vs, pre, _, _, _, h⟩
    exact kept H2 h
  · rintro i x H2 H3 hi ⟨vs, pre, hpre, hDl, hr, hkp⟩ ⟨s3, d, hd, rd⟩
    have e3 : ds.take (i + 1) = ds.take i ++ [d] := by rw [List.take_add_one, hd]; rfl
    obtain ⟨pre', post, e4, e5⟩ := lcAll_take e2 (i + 1)
    have e4' := e4
    rw [e3, lcAll_snoc, hpre] at e4
    simp only [Option.bind_some] at e4
    obtain ⟨ys, e6, rfl⟩ := Option.map_eq_some_iff.mp e4
    obtain ⟨ρ', e7, e8⟩ := Option.bind_eq_some_iff.mp e6
    obtain ⟨b, e9, e10⟩ := Option.bind_eq_some_iff.mp e8
    have hD3 : H3 Dl = some (.lst vs) := s3 _ _ hDl
    have all3 : ∀ b o, H1 b = some o → H3 b = some o := fun b o e => s3 b o (hkp b o e)
    have sm : Same H1 H3 := all3
    have fr3 : Fre (fun b => P b ∧ b ≠ Dl) H3 := fre_minus (fr1.same sm) (by rw [hD3]; simp)
    have er3 : ER X.mg (fun b => P b ∧ b ≠ Dl) ks' H3 (L2.wipe σ (own.map (·.2))) (wipeE ρ (own.map (·.2))) := ER.wipe (er1.mono sm fun a ha pa => ⟨pa, fun e => ha (e ▸ hD)⟩) hk
    refine ⟨_, _, _, d, rd, er3, e7, fun σ' er' hl hj => ⟨wipe_eq hl hj his, ?_⟩⟩
    refine ⟨_, ρ', b, fr3, er', e9, fun H4 s4 => ?_⟩
    have all4 : ∀ b o, H1 b = some o → H4 b = some o := fun b o e => s4 b o (all3 b o e)
    cases b with
    | false =>
      rw [if_neg Bool.false_ne_true] at e10
      refine iteF ?_
      cases e10
      exact ⟨vs, pre ++ [], e4', s4 _ _ hD3, by rw [List.append_nil]; exact (hr.same s3).same s4, all4⟩
    | true =>
      rw [if_pos rfl] at e10
      refine iteT ?_
      obtain ⟨y, e11, rfl⟩ := Option.map_eq_some_iff.mp e10
      refine ⟨_, ρ', y, fr3.same s4, er'.same s4, e11, fun v H5 s5 r5 => ?_⟩
      have hD5 : H5 Dl = some (.lst vs) := s5 _ _ (s4 _ _ hD3)
      have rl := ((hr.same s3).same s4).same s5
      refine ⟨vs, hD5, ?_, vs ++ [v], pre ++ [y], e4', upd_same, ?_, fun b o e => ?_⟩
      · rw [rl.len]
        have : outs.length = (pre ++ [y]).length + post.length := by rw [e5, List.length_append]
        rw [List.length_append, List.length_singleton] at this
        omega
      · have r6 : RepL (fun b => P b ∧ b ≠ Dl) H5 (pre ++ [y]) (vs ++ [v]) := rl.app (by simp only [RepL]; exact ⟨v, [], rfl, r5, rfl⟩)
        exact RepL.chg (by rw [hD5]; trivial) (fun z => z.2 rfl) _ _ r6
      · rw [upd_ne (ne_of_none e hD)]
        exact s5 b o (all4 b o e)
  · rintro H2 ⟨vs, pre, hpre, hDl, hr, hkp⟩
    rw [List.take_length, e2] at hpre
    cases hpre
    refine k _ H2 (s1.trans hkp) ⟨?_, ?_⟩
    · simp only [Rep]
      exact ⟨Dl, vs, rfl, fr1 Dl hD, hDl, hr.weak fun a z => z.1⟩
    · exact topNew_ref (s1.free hD)

theorem peOr {X : Cx} {e : Expr} {t u : TE} (h : PE X e t) (g : PE X e u) : PE X e (fun σ H Q => t σ H Q ∨ u σ H Q) :=
  ⟨fun pins s σ H Q I q => q.elim (fun z => h.run pins s σ H Q I z) fun z => g.run pins s σ H Q I z⟩
theorem same_off {H H' : Hp} {a : Addr} {u : HO} {od : Obj} (h : H a = some u) (s : Same (upd H a (.frz od u)) H') : Same H (upd H' a u) := fun b o e => by
  by_cases c : b = a
  · subst c; rw [h] at e; cases e; exact upd_same
  · rw [L2.upd_ne c]
    exact s b o (by rw [L2.upd_ne c]; exact e)
theorem evN_lcD {X : Cx} {ks ks' : Ks} {F : Fn} {elt tg : Expr} {ifs : List Expr} {scope : Scope} {own : List (Str × Nat)} {pos p : Pos} {i : Nat} {x : Str} {is : List Nat} {asg : SG} {ft : SB} {fe : SE} (hc : X.calm = true) (hN : X.N.Nodup)
    (hi : X.N[i]? = some x) (hv : Vis X.env.scope x) (hd : (x == ("__debug__" : Str)) = false) (hcd : (x == ("__classdict__" : Str)) = false) (ok : BlkOk X.N X.env.scope scope own) (his : ∀ j ∈ is, j ∈ own.map (·.2)) (hk : ∀ i, i ∉ own.map (·.2) → kd ks' i = kd ks i)
    (hg : ∀ (s : Shared) (H : Hp) (C : Addr) (cl : List (Str × Addr)) (fp : List Addr), EvG (X.blk s H scope (compEnvC scope cl C X.env) fp) ks' tg is asg)
    (ht : ∀ (s : Shared) (H : Hp) (C : Addr) (cl : List (Str × Addr)) (fp : List Addr), EvTs (X.blk s H scope (compEnvC scope cl C X.env) fp) ks' F ifs ft)
    (he : ∀ (s : Shared) (H : Hp) (C : Addr) (cl : List (Str × Addr)) (fp : List Addr), EvE (X.blk s H scope (compEnvC scope cl C X.env) fp) ks' F elt fe)
    (hs : ∀ y, foldedSetIterable (.Name x p) X.env y = pure y) : EvN X ks F (.ListComp elt [⟨tg, .Name x p, ifs, 0⟩] scope pos) (cLc (own.map (·.2)) (cKeys i) asg ft fe) := by
  obtain ⟨t, pt, q⟩ := evx_lc hc hN (evIx_keys (F := F) (ks := ks) (tg := tg) (pos := p) hi hv hd hcd) ok his hk hg ht he hs
  refine ⟨_, peOr pt (pe_lock pt), fun σ H P ρ Q d fr er ev k => ?_⟩
  obtain ⟨ds, e1, ev1⟩ := Option.bind_eq_some_iff.mp ev
  obtain ⟨tt, kvs, e2, rfl⟩ := cKeys_some e1
  obtain ⟨v, e3, r⟩ := er.2 i _ e2
  obtain ⟨a, ps, rfl, hh, hkv⟩ := r.toB.dic
  have cases2 : (∃ u, isDO u ∧ H a = some u) ∨ ∃ o u, isDO u ∧ H a = some (.frz o u) := by
    cases tt with
    | false =>
      obtain ⟨kk, rd, _⟩ := hh
      rcases rd with rd | ⟨o, rd⟩
      · exact .inl ⟨.dK kk, trivial, rd⟩
      · exact .inr ⟨o, .dK kk, trivial, rd⟩
    | true =>
      obtain ⟨kk, rd, _⟩ := hh
      rcases rd with rd | ⟨o, rd⟩
      · exact .inl ⟨.dT kk, trivial, rd⟩
      · exact .inr ⟨o, .dT kk, trivial, rd⟩
  rcases cases2 with ⟨u, hu, ha⟩ | ⟨o, u, hu, ha⟩
  · refine .inr ⟨a, u, ha, hu.mut, fun od => ?_⟩
    have lk := lck_on ha hu od
    refine q σ _ ⟨a, od, u, e3, upd_same⟩ P ρ _ d (fr.lck lk) (er.lck lk) ev fun w H' s ⟨r1, r2⟩ => ?_
    have ha' := s a _ upd_same
    refine ⟨ha', k w _ (same_off ha s) ⟨Rep.lck (lck_off ha' hu) d w r1, ?_⟩⟩
    cases d <;> simp only [TopNew] at r2 ⊢ <;> exact fun b eb => lk.free b (r2 b eb)
  · exact .inl (q σ H ⟨a, o, u, e3, ha⟩ P ρ Q d fr er ev k)
end RE
/-! RE13i: dicts made by a comprehension, keys alone or tuples. -/
namespace RE
open PySem PySem.Spec PyProof.Rows L2

def newD (k : Bool) : HO := if k then .dT [] else .dK []
theorem new_ok (k : Bool) {P : Program} {w : World} {H : Hp} (h : Heap) (hb : sysModules < h.objs.size) : ObjOk P w H (h.push { cls := .type "dict", data := .dict #[] }) h.objs.size (newD k) := by
  cases k
  · exact dk_empty h hb
  · exact dt_empty h hb
theorem d_dictSetG {X : Cx} {pins : List (Addr × Obj)} {σ : L2.St} {H H' : Hp} {s : Shared} {E : Value → Shared → Prop} {a : Addr} {y v : V} {u r : Value} {Q : Unit → Shared → Prop} (hu : X.A.units + 1 < cLine) (I : Inv X pins σ H s) (g : DPut H a y v H') (ry : RelV y u) (rv : RelV v r)
    (h : ∀ s', Inv X pins σ H' s' → Q () s') : wpAny (model X.prog X.w) X.A (dictSet a u r) Q E s := by
  rcases g with ⟨kvs, k, e, ey, l, eH⟩ | ⟨kvs, k, b, e, ey, eb, l, eH⟩
  · subst ey eH
    obtain ⟨z, hd, vs, rel, dd⟩ := dk_of I.hok e
    have hz : vs.length ≤ sizeLine := by rw [← rel.length]; exact z
    have hl : (putK kvs k v).length ≤ sizeLine := by have := length_putK kvs k v; omega
    refine wpAny_dictSet_pairs (hsz := hz) (kV_is ry) dd fun h' dd' hs => h _ ?_
    exact d_write I (by rw [e]; exact True.intro) hs (let ⟨q, _, _, hq, _⟩ := dd'; ⟨q, hq⟩) (dk_new hl hd (rel.put k rv) dd')
  · subst ey eH
    cases (show u = Value.ref b from ry)
    obtain ⟨z, hd, xs, rel, dd⟩ := dt_of I.hok e
    have hz : xs.length ≤ sizeLine := by rw [← Paired.length rel]; exact z
    have hl : (putK kvs k v).length ≤ sizeLine := by have := length_putK kvs k v; omega
    refine wpAny_dictSet_heap (hsz := hz) (show (tupleKind (mixKind X.prog X.w)).room X.A from Nat.lt_of_succ_lt hu) (key_of I.hok eb) dd fun h' dd' hs => h _ ?_
    obtain ⟨q, es, ep, hq, h2, h3, h4, _, h5⟩ := dd'
    refine d_write I (by rw [e]; exact True.intro) hs ⟨q, hq⟩ ⟨hl, hd, _, (rel.put k eb rv).keeps fun c ys ec => ?_, q, es, ep, hq, h2, h3, h4, h5⟩
    rw [upd_ne (ne_of ec e (fun z => nomatch z))]
    exact ec
section
variable {X : Cx}
/-- {kx: vx for target in iter if ..}; k: keys are tuples -/
def tDg (k : Bool) (wi : TI) (g : TG) (tt : TT) (tk tv : TE) (vs : List Nat) : TE := fun σ H Q => wi σ H fun J H1 => ∀ D, H1 D = none → ∃ W : Nat → Nat → Hp → Prop, (∃ m, W 0 m (upd H1 D (newD k))) ∧ ∀ i m H, W i m H →
  (J.stop i H ∧ Q (.ref D) H) ∨ (J.go i H ∧ ∃ Nx : Hp → Prop, (∀ H', Nx H' → ∃ m', m' < m ∧ W (i + 1) m' H') ∧ ∀ x H', J.yld i H x H' → g x (wipe σ vs) H' fun σ2 H2 => wipe σ2 vs = wipe σ vs ∧ tt σ2 H2 fun b H3 =>
    if b = true then tk σ2 H3 fun y H4 => tv σ2 H4 fun z H5 => ∃ H6, DPut H5 D y z H6 ∧ Nx H6 else Nx H3)
theorem dg_core (k : Bool) {pins : List (Addr × Obj)} {s : Shared} {σ : L2.St} {H : Hp} {Q : VK} {kx vx tg iter : Expr} {ifs : List Expr} {scope : Scope} {own : List (PySem.Str × Nat)} {p1 p2 : Pos} {wi : TI} {g : TG} {tt : TT} {tk tv : TE} {use : Option (Value → Sem Unit)} {Qf : Value → Shared → Prop}
    (hu : X.A.units + 1 < cLine) (hc : X.calm = true) (hN : X.N.Nodup) (I : Inv X pins σ H s) (hi : PI X tg iter wi) (ok : BlkOk X.N X.env.scope scope own)
    (hg : ∀ (s : Shared) (H : Hp) (C : Addr) (cl : List (PySem.Str × Addr)) (fp : List Addr), PG (X.blk s H scope (compEnvC scope cl C X.env) fp) tg g)
    (ht : ∀ (s : Shared) (H : Hp) (C : Addr) (cl : List (PySem.Str × Addr)) (fp : List Addr), PTs (X.blk s H scope (compEnvC scope cl C X.env) fp) ifs tt)
    (hk : ∀ (s : Shared) (H : Hp) (C : Addr) (cl : List (PySem.Str × Addr)) (fp : List Addr), PE (X.blk s H scope (compEnvC scope cl C X.env) fp) kx tk)
    (he : ∀ (s : Shared) (H : Hp) (C : Addr) (cl : List (PySem.Str × Addr)) (fp : List Addr), PE (X.blk s H scope (compEnvC scope cl C X.env) fp) vx tv)
    (hs : ∀ x, foldedSetIterable iter X.env x = pure x) (h : tDg k wi g tt tk tv (own.map (·.2)) σ H Q)
    (hE : ∀ D C z m H', Inv X pins σ H' z → Q (.ref D) H' → z.heap.Ns C m → FpOk X pins H' C → compPost (model X.prog X.w) X.A X.xe use Qf (.ref D) C (.ok .next) z) :
    wpAny (model X.prog X.w) X.A (comprehension (.DictComp kx vx [⟨tg, iter, ifs, 0⟩] scope p1) scope X.env p2 newDict false (eval iter X.env) use) Qf X.xe s := by
  have fr : ∀ y ∈ scope.names, y.2 = .free → ∃ c, X.env.cells.lookup y.1 = some c := fun y hy e => (ok.free y hy e).elim (fun k => I.ok.has _ (.inl k)) fun k => I.ok.has _ (.inr k)
  refine wpAny_comprehension_free (use := use) rfl hs (closure_ok fr) ok.kind (fun y hy e => by rw [ok.uniq y hy, e]) (thn (hi.run pins s σ H _ I h) fun _ s1 hx => thn hx fun _ s2 ⟨it, fp, tn, J, H2, e0, I2, T, t2, f2, q⟩ => ?_)
  subst e0
  refine wpAny_newObj_type (newEnv_comp ?_)
  generalize eD : s2.heap.objs.size = D
  have nD : H2 D = none := I2.hok.fresh (Nat.le_of_eq eD)
  obtain ⟨W, ⟨m0, w0⟩, turn⟩ := q D nD
  generalize e3 : ({ s2 with heap := s2.heap.push { cls := .type "dict", data := .dict #[] } } : Shared) = s3
  have h3 : s3.heap = s2.heap.push { cls := .type "dict", data := .dict #[] } := by rw [← e3]
  have I3 : Inv X pins σ (upd H2 D (newD k)) s3 := by
    rw [← e3]
    refine I2.laid (t' := s2.toks) (fun b o e => Heap.get?_push_of_some _ e) (Nat.le_of_eq eD) ?_
    rw [← eD]
    exact new_ok k s2.heap I2.big
  have lt : ∀ b ∈ fp, b < s2.heap.objs.size := fun b hb => let ⟨_, e, _⟩ := T.obj _ _ t2 b hb; Heap.lt_size e
  have f3 : ∀ b ∈ fp, FpOk X pins (upd H2 D (newD k)) b ∧ b < s3.heap.objs.size := fun b hb => by
    refine ⟨⟨?_, (f2 b hb).2⟩, by rw [h3, Heap.size_push]; exact Nat.lt_succ_of_lt (lt b hb)⟩
    rw [upd_ne (by rw [← eD]; exact Nat.ne_of_lt (lt b hb))]
    exact (f2 b hb).1
  have t3 : tn 0 s3.heap := T.keep _ _ _ t2 fun b _ o e => by rw [h3]; exact Heap.get?_push_of_some _ e
  have I4 := block_start I3 ok hN f3
  have pg := hg s3 (upd H2 D (newD k)) s3.heap.objs.size (cellsFrom (s3.heap.objs.size + 1) scope.names (cloFrom X.env.cells scope.names [])) fp
  have pt := ht s3 (upd H2 D (newD k)) s3.heap.objs.size (cellsFrom (s3.heap.objs.size + 1) scope.names (cloFrom X.env.cells scope.names [])) fp
  have pk := hk s3 (upd H2 D (newD k)) s3.heap.objs.size (cellsFrom (s3.heap.objs.size + 1) scope.names (cloFrom X.env.cells scope.names [])) fp
  have pe := he s3 (upd H2 D (newD k)) s3.heap.objs.size (cellsFrom (s3.heap.objs.size + 1) scope.names (cloFrom X.env.cells scope.names [])) fp
  show codeAny _ _ (.compStart (.DictComp kx vx [⟨tg, iter, ifs, 0⟩] scope p1) 0 (.ref it) (.ref D) (compEnvC scope (cellsFrom (s3.heap.objs.size + 1) scope.names (cloFrom X.env.cells scope.names [])) s3.heap.objs.size X.env)) (compPost (model X.prog X.w) X.A X.xe use Qf (.ref D) s3.heap.objs.size) { s3 with heap := pushCells (s3.heap.push { cls := .type "dict", data := .dict #[] }) scope.names }
  have nf : ∀ b ∈ fp, (upd H2 D (newD k)) b = none := fun b hb => (f3 b hb).1.1
  generalize ec : compEnvC scope (cellsFrom (s3.heap.objs.size + 1) scope.names (cloFrom X.env.cells scope.names [])) s3.heap.objs.size X.env = ce at I4 pg pt pk pe ⊢
  have eL : ce.locals = s3.heap.objs.size := by subst ec; rfl
  generalize eH : upd H2 D (newD k) = H3 at I3 I4 pg pt pk pe w0 nf f3
  generalize e4 : ({ s3 with heap := pushCells (s3.heap.push { cls := .type "dict", data := .dict #[] }) scope.names } : Shared) = s4 at I4 ⊢
  have t4 : tn 0 s4.heap := T.keep _ _ _ t3 fun b _ o e => by rw [← e4]; exact pushCells_keeps _ _ _ _ (Heap.get?_push_of_some _ e)
  have stat : ∀ {σ' : L2.St} {H' : Hp} {z : Shared}, Inv (X.blk s3 H3 scope ce fp) [] σ' H' z → (∀ b ∈ fp, H' b = none) → ∀ b ∈ fp, FpOk (X.blk s3 H3 scope ce fp) [] H' b := fun I' hn b hb =>
    ⟨hn b hb, (I'.ok.exf b hb).1, I'.ok.exfs b hb, .inl hb, fun x c e => (I'.ok.exf b hb).2 x c e, fun p hp => absurd (show p ∈ ([] : List (Addr × Obj)) ++ [] from hp) (by simp)⟩
  have loop : codeAny (model X.prog X.w) X.A (.compLoop (.DictComp kx vx [⟨tg, iter, ifs, 0⟩] scope p1) 0 (.ref it) (.ref D) ce) (compPost (model X.prog X.w) X.A X.xe use Qf (.ref D) s3.heap.objs.size) s4 := by
    refine compLoop_anyD (fun n z => ∃ i H', Inv (X.blk s3 H3 scope ce fp) [] (wipe σ (own.map (·.2))) H' z ∧ tn i z.heap ∧ (∀ b ∈ fp, H' b = none) ∧ W i n H') ?_ m0 ⟨0, H3, I4, t4, nf, w0⟩
    rintro n s5 ⟨i, H5, I5, t5, n5, w5⟩
    rcases turn i n H5 w5 with ⟨stop, qq⟩ | ⟨go, Nx, hNx, step⟩
    · refine thnF (T.done (X.blk s3 H3 scope ce fp) rfl rfl rfl hc i [] s5 _ H5 (fun _ _ => False) I5 (stat I5 n5) t5 stop) fun r s6 ⟨er, I6⟩ => ?_
      subst er
      have I7 : Inv X pins σ H5 s6 := I3.call' (ch := fp) I6.os I6.base I6.hok I6.bare fun b hb => ⟨(f3 b hb).1.2.2.2.1, (f3 b hb).1.2.1, (f3 b hb).1.2.2.2.2.1, (f3 b hb).1.2.2.2.2.2⟩
      have nC : H5 s3.heap.objs.size = none := eL ▸ I6.free
      obtain ⟨m, hn, _⟩ := I6.loc
      have hn : s6.heap.Ns ce.locals m := hn
      rw [eL] at hn
      exact hE D s3.heap.objs.size s6 m H5 I7 qq hn (I3.fpOk (Nat.le_refl _) nC)
    · refine thnF (T.item (X.blk s3 H3 scope ce fp) rfl rfl rfl hc i [] s5 _ H5 (fun _ _ => False) I5 (stat I5 n5) t5 go) fun r s6 ⟨u, er, h6⟩ => ?_
      subst er
      refine thnF h6 fun _ s7 ⟨x, H7, I7, r7, y7, t7, n7⟩ => ?_
      refine thnF (pg.run _ s7 _ H7 x u _ (I7.pinned (stat I7 n7) (T.obj _ _ t7)) r7 (step x H7 y7)) fun _ s8 ⟨σ8, H8, I8, w8, q8⟩ => ?_
      refine thnF (pt.run _ s8 σ8 H8 _ I8 q8) fun b s9 ⟨H9, I9, q9⟩ => ?_
      have fin : ∀ {z : Shared} {H' : Hp}, Inv (X.blk s3 H3 scope ce fp) ([] ++ pinsAt fp s7.heap) σ8 H' z → Nx H' → ∃ m, m < n ∧ ∃ i H', Inv (X.blk s3 H3 scope ce fp) [] (wipe σ (own.map (·.2))) H' z ∧ tn i z.heap ∧ (∀ b ∈ fp, H' b = none) ∧ W i m H' := fun {z H'} I' nx => by
        obtain ⟨m', hm, w'⟩ := hNx H' nx
        have pin : ∀ b ∈ fp, ∀ o, s7.heap.get? b = some o → z.heap.get? b = some o ∧ H' b = none := fun b hb o e =>
          let y := I'.pin (b, o) (List.mem_append_right _ (List.mem_append_right _ (mem_pinsAt hb e)))
          ⟨y.1, y.2.1⟩
        refine ⟨m', hm, i + 1, H', (I'.unpinned (pins := [])).weak (by rw [← w8, wipe_length]) (fun j v e => ?_), T.keep _ _ _ t7 fun b hb o e => (pin b hb o e).1, fun b hb => ?_, w'⟩
        · rw [← w8] at e
          exact (wipe_some e).1
        · obtain ⟨o, e, _⟩ := T.obj _ _ t7 b hb
          exact (pin b hb o e).2
      cases b with
      | false =>
        simp only [Bool.false_eq_true, if_false] at q9 ⊢
        exact fin I9 q9
      | true =>
        simp only [if_true] at q9 ⊢
        refine thnF (pk.run _ s9 σ8 H9 _ I9 q9) fun z s10 ⟨yk, H10, I10, r10, q10⟩ => ?_
        refine thnF (pe.run _ s10 σ8 H10 _ I10 q10) fun z2 s11 ⟨yv, H11, I11, r11, H6, g6, nx⟩ => ?_
        exact d_dictSetG (X := X.blk s3 H3 scope ce fp) hu I11 g6 r10 r11 fun s12 I12 => fin I12 nx
  exact codeAny_compStart_dict loop (T.self X.A 0 _ _ _ t4 loop)
theorem pe_dg (k : Bool) (hu : X.A.units + 1 < cLine) {kx vx tg iter : Expr} {ifs : List Expr} {scope : Scope} {own : List (PySem.Str × Nat)} {pos : Pos} {wi : TI} {g : TG} {tt : TT} {tk tv : TE} (hc : X.calm = true) (hN : X.N.Nodup) (hi : PI X tg iter wi) (ok : BlkOk X.N X.env.scope scope own)
    (hg : ∀ (s : Shared) (H : Hp) (C : Addr) (cl : List (PySem.Str × Addr)) (fp : List Addr), PG (X.blk s H scope (compEnvC scope cl C X.env) fp) tg g)
    (ht : ∀ (s : Shared) (H : Hp) (C : Addr) (cl : List (PySem.Str × Addr)) (fp : List Addr), PTs (X.blk s H scope (compEnvC scope cl C X.env) fp) ifs tt)
    (hk : ∀ (s : Shared) (H : Hp) (C : Addr) (cl : List (PySem.Str × Addr)) (fp : List Addr), PE (X.blk s H scope (compEnvC scope cl C X.env) fp) kx tk)
    (he : ∀ (s : Shared) (H : Hp) (C : Addr) (cl : List (PySem.Str × Addr)) (fp : List Addr), PE (X.blk s H scope (compEnvC scope cl C X.env) fp) vx tv) (hs : ∀ x, foldedSetIterable iter X.env x = pure x) :
    PE X (.DictComp kx vx [⟨tg, iter, ifs, 0⟩] scope pos) (tDg k wi g tt tk tv (own.map (·.2))) := by
  refine ⟨fun pins s σ H Q I h => ?_⟩
  rw [arm_eval_DictComp]
  refine dg_core k hu hc hN I hi ok hg ht hk he hs h fun D C z m H' I' q hn f => ⟨m, hn, fun h2 sb => ?_⟩
  obtain ⟨f0, f1, _, f3, f4, f5⟩ := f
  exact ⟨.ref D, H', I'.turned (t' := z.toks) (fun b o hb e => (sb.2 b hb).trans e) f0 f1 f3 f4 f5, rfl, q⟩
/-- name = {..} on one line, the name a local -/
theorem ps_setDg (k : Bool) (hu : X.A.units + 1 < cLine) {i : Nat} {y : Str} {py : Pos} {kx vx tg iter : Expr} {ifs : List Expr} {scope : Scope} {own : List (PySem.Str × Nat)} {pos spos : Pos} {wi : TI} {g : TG} {tt : TT} {tk tv : TE} (hc : X.calm = true) (hN : X.N.Nodup) (hy : X.N[i]? = some y) (hyl : X.env.scope.names.lookup y = some .local)
    (hsw : swapsWith (.DictComp kx vx [⟨tg, iter, ifs, 0⟩] scope pos) (some (.Name y py)) spos.line X.env = pure true) (hi : PI X tg iter wi) (ok : BlkOk X.N X.env.scope scope own)
    (hg : ∀ (s : Shared) (H : Hp) (C : Addr) (cl : List (PySem.Str × Addr)) (fp : List Addr), PG (X.blk s H scope (compEnvC scope cl C X.env) fp) tg g)
    (ht : ∀ (s : Shared) (H : Hp) (C : Addr) (cl : List (PySem.Str × Addr)) (fp : List Addr), PTs (X.blk s H scope (compEnvC scope cl C X.env) fp) ifs tt)
    (hk : ∀ (s : Shared) (H : Hp) (C : Addr) (cl : List (PySem.Str × Addr)) (fp : List Addr), PE (X.blk s H scope (compEnvC scope cl C X.env) fp) kx tk)
    (he : ∀ (s : Shared) (H : Hp) (C : Addr) (cl : List (PySem.Str × Addr)) (fp : List Addr), PE (X.blk s H scope (compEnvC scope cl C X.env) fp) vx tv) (hs : ∀ x, foldedSetIterable iter X.env x = pure x) :
    PS X (.Assign [.Name y py] (.DictComp kx vx [⟨tg, iter, ifs, 0⟩] scope pos) spos) (tAsg (tDg k wi g tt tk tv (own.map (·.2))) (gName i)) := by
  refine ⟨fun pins s σ H D I h => ?_⟩
  rw [exec_Assign_Name_used _ _ _ _ hsw]
  refine wpAny_bind (wpAny_standAt (wpAny_bind ?_))
  show wpAny _ X.A (do let _ ← comprehension (.DictComp kx vx [⟨tg, iter, ifs, 0⟩] scope pos) scope X.env (firstIterPos [⟨tg, iter, ifs, 0⟩] pos) newDict false (eval iter X.env) (some (assign (.Name y py) X.env))) _ _ s
  have h : tDg k wi g tt tk tv (own.map (·.2)) σ H (fun x H1 => gName i x σ H1 D.nx) := h
  refine wpAny_bind (thn (dg_core k (Qf := fun _ s' => SP X pins D .next s') hu hc hN I hi ok hg ht hk he hs h fun L C s' m H' I' q hn f => ?_) fun _ s' hq => wpAny_pure (wpAny_pure hq))
  show wpAny _ _ (assign (.Name y py) X.env (.ref L)) _ _ _
  refine wpAny_assign_Name (store_ok2 (v := V.ref L) I' hN hy (.inl hyl) rfl (fun s2 I2 ⟨a, sb, ha⟩ => ?_) (.inr hyl))
  obtain ⟨f0, f1, f2, f3, f4, f5⟩ := f
  have haC : C ≠ a := by
    rcases ha with z | z
    · rw [z]; exact f1
    · exact fun e => f4 y a z e.symm
  refine ⟨m, hn.sameBut sb haC, fun h3 sb3 => ?_⟩
  exact ⟨_, H', I2.turned (t' := s2.toks) (fun b o hb e => (sb3.2 b hb).trans e) f0 f1 f3 f4 f5, q⟩
/-- e gives f: a new object, not locked; also straight into a name -/
structure EvMS (X : Cx) (ks : Ks) (F : Fn) (e : Expr) (f : SE) : Prop where
  ex : ∃ t : TE, (PE X e t ∧ ∀ (i : Nat) (y : Str) (py spos : Pos), X.N[i]? = some y → X.env.scope.names.lookup y = some .local → swapsWith e (some (.Name y py)) spos.line X.env = pure true → PS X (.Assign [.Name y py] e spos) (tAsg t (gName i))) ∧
    ∀ σ H, Cn X.mg H ks F f σ (fun P d v H' => Rep P H' d v ∧ TopNew H d v ∧ Unl H' d v) t
theorem EvMS.toM {ks : Ks} {F : Fn} {e : Expr} {f : SE} (h : EvMS X ks F e f) : EvM X ks F e f := let ⟨t, p, q⟩ := h.ex; ⟨t, p.1, q⟩
end
section
variable {X : Cx} {ks ks' : Ks} {F : Fn} {pos : Pos}
def dcOne (asg : SG) (t : SB) (kx vx : SE) (F : Fn) (ρ : RE.Env) (d : D) : Option (Option (D × D)) := (asg d ρ).bind fun ρ' => (t F ρ').bind fun b => if b then (kx F ρ').bind fun y => (vx F ρ').map fun z => some (y, z) else some none
def dcPut (acc : D) : Option (D × D) → Option D
  | none => some acc
  | some p => putD acc p.1 p.2
def dcFold (one : D → Option (Option (D × D))) : D → List D → Option D
  | acc, [] => some acc
  | acc, d :: ds => (one d).bind fun p => (dcPut acc p).bind fun acc' => dcFold one acc' ds
theorem dcFold_app (one : D → Option (Option (D × D))) : ∀ (a b : List D) (acc : D), dcFold one acc (a ++ b) = (dcFold one acc a).bind fun acc' => dcFold one acc' b
  | [], b, acc => rfl
  | d :: a, b, acc => by
    rw [List.cons_append, dcFold, dcFold, Option.bind_assoc]
    congr 1; funext p
    rw [Option.bind_assoc]
    congr 1; funext acc'
    exact dcFold_app one a b acc'
/-- {kx: vx for target in iter if ..} -/
def cDc (k : Bool) (own : List Nat) (fi : SL) (asg : SG) (t : SB) (kx vx : SE) : SE := fun F ρ => (fi F ρ).bind fun ds => dcFold (dcOne asg t kx vx F (wipeE ρ own)) (.dic k []) ds
theorem putD_dic {k : Bool} {kvs : List (D × D)} {y z d : D} (h : putD (.dic k kvs) y z = some d) : ∃ kvs', d = .dic k kvs' := by
  simp only [putD] at h
  split at h
  · obtain ⟨q, _, rfl⟩ := Option.map_eq_some_iff.mp h
    exact ⟨q, rfl⟩
  · cases h
theorem evMS_dc (k : Bool) {kx vx tg iter : Expr} {ifs : List Expr} {scope : Scope} {own : List (Str × Nat)} {fi : SL} {is : List Nat} {asg : SG} {ft : SB} {fk fe : SE} (hu : X.A.units + 1 < cLine) (hc : X.calm = true) (hN : X.N.Nodup)
    (hi : EvI X ks F tg iter fi) (ok : BlkOk X.N X.env.scope scope own) (his : ∀ j ∈ is, j ∈ own.map (·.2)) (hk : ∀ i, i ∉ own.map (·.2) → kd ks' i = kd ks i)
    (hg : ∀ (s : Shared) (H : Hp) (C : Addr) (cl : List (Str × Addr)) (fp : List Addr), EvG (X.blk s H scope (compEnvC scope cl C X.env) fp) ks' tg is asg)
    (ht : ∀ (s : Shared) (H : Hp) (C : Addr) (cl : List (Str × Addr)) (fp : List Addr), EvTs (X.blk s H scope (compEnvC scope cl C X.env) fp) ks' F ifs ft)
    (hx : ∀ (s : Shared) (H : Hp) (C : Addr) (cl : List (Str × Addr)) (fp : List Addr), EvE (X.blk s H scope (compEnvC scope cl C X.env) fp) ks' F kx fk)
    (he : ∀ (s : Shared) (H : Hp) (C : Addr) (cl : List (Str × Addr)) (fp : List Addr), EvE (X.blk s H scope (compEnvC scope cl C X.env) fp) ks' F vx fe)
    (hs : ∀ x, foldedSetIterable iter X.env x = pure x) : EvMS X ks F (.DictComp kx vx [⟨tg, iter, ifs, 0⟩] scope pos) (cDc k (own.map (·.2)) fi asg ft fk fe) := by
  obtain ⟨wi, pi, q⟩ := hi.ex
  refine ⟨tDg k wi (tG X.mg ks' is asg) (tT X.mg ks' F ft) (tE X.mg ks' F fk) (tE X.mg ks' F fe) (own.map (·.2)), ⟨pe_dg k hu hc hN pi ok (fun s H C cl fp => (hg s H C cl fp).can) (fun s H C cl fp => (ht s H C cl fp).can) (fun s H C cl fp => (hx s H C cl fp).can) (fun s H C cl fp => (he s H C cl fp).can) hs, fun i y py spos hy hyl hsw => ps_setDg k hu hc hN hy hyl hsw pi ok (fun s H C cl fp => (hg s H C cl fp).can) (fun s H C cl fp => (ht s H C cl fp).can) (fun s H C cl fp => (hx s H C cl fp).can) (fun s H C cl fp => (he s H C cl fp).can) hs⟩, fun σ H P ρ Q d fr er ev kQ => ?_⟩
  obtain ⟨ds, e1, e2⟩ := Option.bind_eq_some_iff.mp ev
  refine q σ H P ρ _ ds fr er e1 fun J H1 src s1 wk top Dl hD => ?_
  have fr1 := fr.same s1
  have er1 := er.same s1
  have wk := wk (fun b => P b ∧ b ≠ Dl) fun a ha pa => ⟨pa, fun e => ha (e ▸ hD)⟩
  have kept : ∀ H2, (∀ b o, H1 b = some o → H2 b = some o) → Kept (fun b => P b ∧ b ≠ Dl) src H1 H2 := fun H2 h b o e _ => h b o e
  let Pv : Nat → Hp → Prop := fun i H2 => ∃ kvs, dcFold (dcOne asg ft fk fe F (wipeE ρ (own.map (·.2)))) (.dic k []) (ds.take i) = some (.dic k kvs) ∧ RepB X.mg (fun b => P b ∧ b ≠ Dl) H2 (.dic k kvs) (.ref Dl) ∧ Chg (H2 Dl) ∧ ∀ b o, H1 b = some o → H2 b = some o
  refine it_gen (n := ds.length) (Pv := Pv) ?_ ?_ ?_ ?_
  · refine ⟨[], by simp [dcFold], ?_, ?_, fun b o e => ?_⟩
    · simp only [RepB]
      cases k
      · exact ⟨Dl, [], rfl, ⟨[], .inl upd_same, rfl⟩, by simp only [RepKV]⟩
      · exact ⟨Dl, [], rfl, ⟨[], .inl upd_same, rfl⟩, by simp only [RepKV]⟩
    · rw [upd_same]; cases k <;> trivial
    · rw [upd_ne (ne_of_none e hD)]; exact e
  · rintro i H2 hi ⟨kvs, _, _, _, h⟩
    exact wk.goes H2 i (kept H2 h) hi
  · rintro H2 ⟨kvs, hf, hr, hch, hkp⟩
    refine ⟨wk.stops H2 (kept H2 hkp), ?_⟩
    rw [List.take_length, e2] at hf
    cases hf
    refine kQ _ H2 (s1.trans hkp) ⟨?_, topNew_ref (s1.free hD), fun _ a ea => by cases ea; exact hch⟩
    simp only [RepB] at hr
    obtain ⟨a, ps, ea, h1, h2⟩ := hr
    cases ea
    simp only [Rep]
    exact ⟨Dl, ps, rfl, fr1 Dl hD, h1, h2.weak fun a z => z.1⟩
  · rintro i x H2 H3 hi ⟨kvs, hf, hr, hch, hkp⟩ yl
    obtain ⟨s3, d', hd, rd⟩ := wk.yields H2 i x H3 (kept H2 hkp) hi yl
    have e3 : ds.take (i + 1) = ds.take i ++ [d'] := by rw [List.take_add_one, hd]; rfl
    have e4 : ∃ z, dcFold (dcOne asg ft fk fe F (wipeE ρ (own.map (·.2)))) (.dic k []) (ds.take (i + 1)) = some z := by
      have := dcFold_app (dcOne asg ft fk fe F (wipeE ρ (own.map (·.2)))) (ds.take (i + 1)) (ds.drop (i + 1)) (.dic k [])
      rw [List.take_append_drop, e2] at this
      obtain ⟨z, hz, _⟩ := Option.bind_eq_some_iff.mp this.symm
      exact ⟨z, hz⟩
    obtain ⟨z, e4⟩ := e4
    have e4' := e4
    rw [e3, dcFold_app, hf] at e4
    simp only [Option.bind_some, dcFold] at e4
    obtain ⟨p, e6, e6'⟩ := Option.bind_eq_some_iff.mp e4
    obtain ⟨z', e6'', ez⟩ := Option.bind_eq_some_iff.mp e6'
    cases ez
    obtain ⟨ρ', e7, e8⟩ := Option.bind_eq_some_iff.mp e6
    obtain ⟨b, e9, e10⟩ := Option.bind_eq_some_iff.mp e8
    have all3 : ∀ b o, H1 b = some o → H3 b = some o := fun b o e => s3 b o (hkp b o e)
    have hD2 : H2 Dl ≠ none := fun z => by rw [z] at hch; exact hch
    have keepD : ∀ {H'}, Same H2 H' → Chg (H' Dl) ∧ H' Dl ≠ none := fun {H'} s => by
      cases ho : H2 Dl with
      | none => exact absurd ho hD2
      | some o => rw [s _ _ ho, ← ho]; exact ⟨hch, hD2⟩
    have fr3 : Fre (fun b => P b ∧ b ≠ Dl) H3 := fre_minus (fr1.same all3) (keepD s3).2
    have er3 : ER X.mg (fun b => P b ∧ b ≠ Dl) ks' H3 (L2.wipe σ (own.map (·.2))) (wipeE ρ (own.map (·.2))) := ER.wipe (er1.mono all3 fun a ha pa => ⟨pa, fun e => ha (e ▸ hD)⟩) hk
    refine ⟨_, _, _, d', rd, er3, e7, fun σ' er' hl' hj => ⟨wipe_eq hl' hj his, ?_⟩⟩
    refine ⟨_, ρ', b, fr3, er', e9, fun H4 s4 => ?_⟩
    have all4 : ∀ b o, H1 b = some o → H4 b = some o := fun b o e => s4 b o (all3 b o e)
    cases b with
    | false =>
      rw [if_neg Bool.false_ne_true] at e10
      refine iteF ?_
      cases e10
      cases e6''
      exact ⟨kvs, e4', (hr.same s3).same s4, (keepD (s3.trans s4)).1, all4⟩
    | true =>
      rw [if_pos rfl] at e10
      refine iteT ?_
      obtain ⟨y, e11, e12⟩ := Option.bind_eq_some_iff.mp e10
      obtain ⟨zz, e13, rfl⟩ := Option.map_eq_some_iff.mp e12
      refine ⟨_, ρ', y, fr3.same s4, er'.same s4, e11, fun v H5 s5 r5 => ?_⟩
      refine ⟨_, ρ', zz, (fr3.same s4).same s5, (er'.same s4).same s5, e13, fun w H6 s6 r6 => ?_⟩
      have s26 : Same H2 H6 := ((s3.trans s4).trans s5).trans s6
      obtain ⟨kvs', rfl⟩ := putD_dic e6''
      have r5' : RepB X.mg (fun b => P b ∧ b ≠ Dl) H6 y v := (r5.same s6).toB
      obtain ⟨_, uo, cu, hst, rr⟩ := putD_ok (mg := X.mg) (P := fun b => P b ∧ b ≠ Dl) (keepD s26).1 (fun z => z.2 rfl) (hr.same s26) r5' r6 e6''
      have fin : Pv (i + 1) (upd H6 Dl uo) := ⟨kvs', e4', rr, by rw [upd_same]; exact cu, fun b o e => by
        rw [upd_ne (ne_of_none e hD)]
        exact s6 b o (s5 b o (all4 b o e))⟩
      rcases hst with ⟨p, xs, n, m, z1, z2, z3, z4, z5⟩ | ⟨bb, H', z1, z2, z3⟩
      · exfalso
        cases z1
        have := (hr.same s26).dic
        obtain ⟨a2, ps2, ea2, hd2, _⟩ := this
        cases ea2
        cases k
        · obtain ⟨kk, rd2, _⟩ := hd2
          rcases rd2 with rd2 | ⟨o, rd2⟩ <;> rw [z3] at rd2 <;> cases rd2
        · obtain ⟨kk, rd2, _⟩ := hd2
          rcases rd2 with rd2 | ⟨o, rd2⟩ <;> rw [z3] at rd2 <;> cases rd2
      · cases z1
        exact ⟨H', z2, by rw [z3]; exact fin⟩
/-- straight into an own name -/
theorem evS_swMD {i : Nat} {x : Str} {e : Expr} {f : SE} {py : Pos} (hi : X.N[i]? = some x) (hl : X.env.scope.names.lookup x = some .local) (hk : kd ks i = .M) (hs : swapsWith e (some (.Name x py)) pos.line X.env = pure true) (he : EvMS X ks F e f) : EvS X ks F (.Assign [.Name x py] e pos) (sSetM i f) := by
  obtain ⟨t, ⟨_, p⟩, q⟩ := he.ex
  refine ⟨tAsg t (gName i), p i x py pos hi hl hs, fun Hb Pe P H σ ρ D r sr ev k => ?_⟩
  obtain ⟨d, e0, rfl⟩ := Option.map_eq_some_iff.mp ev
  refine q σ H P ρ _ d sr.fre sr.er e0 fun v H1 s1 ⟨r1, tn, un⟩ => ?_
  obtain ⟨P', sub, ext, fr', ft, _⟩ := new_fits sr hk s1 r1 tn un
  exact k P' _ H1 ((sr.shrink s1 sub ext fr').set ft) ((Frm.shrink s1 sub ext).trans (Frm.set (.inr hk)))
theorem EvM.toN {e : Expr} {f : SE} (h : EvM X ks F e f) : EvN X ks F e f :=
  let ⟨t, p, q⟩ := h.ex
  ⟨t, p, fun σ H P ρ Q d fr er ev k => q σ H P ρ Q d fr er ev fun v H' s r => k v H' s ⟨r.1, r.2.1⟩⟩
/-- {} -/
theorem evM_dnew (k : Bool) : EvM X ks F (.Dict [] [] pos) (cC (.dic k [])) := by
  cases k with
  | false =>
    refine ⟨_, pe_dnewK, fun σ H P ρ Q d fr er ev kQ => ?_⟩
    cases ev
    intro p hp
    refine kQ _ _ (same_new hp) ⟨?_, topNew_ref hp, fun _ a ea => by cases ea; rw [upd_same]; trivial⟩
    simp only [Rep]
    exact ⟨p, [], rfl, fr p hp, ⟨[], .inl upd_same, rfl⟩, by simp only [RepKV]⟩
  | true =>
    refine ⟨_, pe_dnewT, fun σ H P ρ Q d fr er ev kQ => ?_⟩
    cases ev
    intro p hp
    refine kQ _ _ (same_new hp) ⟨?_, topNew_ref hp, fun _ a ea => by cases ea; rw [upd_same]; trivial⟩
    simp only [Rep]
    exact ⟨p, [], rfl, fr p hp, ⟨[], .inl upd_same, rfl⟩, by simp only [RepKV]⟩
end
end RE
/-! RE13j: for over a dict's keys. -/
namespace RE
open PySem PySem.Spec PyProof.Rows L2
section
variable {X : Cx} {ks ks' : Ks} {F : Fn} {pos : Pos}
theorem evx_for {L : L2.St → Hp → Prop} {tg iter : Expr} {b : List Stmt} {fi : SL} {is : List Nat} {asg : SG} {body : SS} (hp : PassesOwn (model X.prog X.w) X.A X.env X.xe) (hc : X.calm = true) (dm : Dem ks ks') (hi : EvIx L X ks' F tg iter fi) (hg : EvG X ks' tg is asg) (ht : Touches asg is) (hF : ∀ j ∈ is, kd ks' j = .F) (hb : EvSs X ks' F b body)
    (hs : ∀ x, foldedSetIterable iter X.env x = pure x) : ∃ t : TS, PS X (.For tg iter b [] pos) t ∧ ∀ Hb Pe P H σ ρ D r, L σ H → SR X.mg Hb Pe P ks H σ ρ → sFor fi asg body F ρ = some r → Post X.mg Hb Pe P ks H σ ρ D r → t D σ H := by
  obtain ⟨wi, pi, qi⟩ := hi.ex
  obtain ⟨tb, pb, qb⟩ := hb.ex
  refine ⟨tFor wi (tG X.mg ks' is asg) tb, ps_for hp hc pi hg.can pb hs, fun Hb Pe P H σ ρ D r hL sr ev k => ?_⟩
  obtain ⟨ds, e1, e2⟩ := Option.bind_eq_some_iff.mp ev
  have sr' := sr.dem dm
  refine qi σ H hL P ρ _ ds sr'.fre sr'.er e1 fun J H1 src s1 wk tp => ?_
  have sr1 := sr'.same s1
  refine for_it (n := ds.length) (G := fun H2 => ∃ P2, (∀ a, H1 a ≠ none → P a → P2 a) ∧ Kept P2 src H1 H2) (Y := fun i H2 x H3 => ∀ P2, (∀ a, H1 a ≠ none → P a → P2 a) → Kept P2 src H1 H2 → Same H2 H3 ∧ ∃ d, ds[i]? = some d ∧ Rep P2 H3 d x)
    ⟨fun i H2 hi ⟨P2, h1, h2⟩ => (wk P2 h1).goes H2 i h2 hi, fun H2 ⟨P2, h1, h2⟩ => (wk P2 h1).stops H2 h2, fun i H2 x H3 hi _ y P2 h1 h2 => (wk P2 h1).yields H2 i x H3 h2 hi y⟩
    (fun i σ2 H2 => ∃ P2 ρ2, SR X.mg Hb Pe P2 ks' H2 σ2 ρ2 ∧ Frm ks' P H1 σ ρ P2 H2 σ2 ρ2 ∧ forD asg (body F) (ds.drop i) ρ2 = some r) ?_ ?_ ?_ ?_
  · exact ⟨P, ρ, sr1, Frm.refl, e2⟩
  · rintro i σ2 H2 hi ⟨P2, ρ2, sr2, fm, ev2⟩
    refine ⟨P2, fm.ext, fun b o eb hx => fm.objs b o eb ?_⟩
    rcases hx with z | z | z
    · exact .inl (.inl (fm.sub b z))
    · exact .inr z
    · exact .inl (tp b z)
  · rintro i x σ2 H2 H3 hi ⟨P2, ρ2, sr2, fm, ev2⟩ y
    obtain ⟨s3, d, ed, rd⟩ := y P2 fm.ext fun b o eb hx => fm.objs b o eb (by
      rcases hx with z | z | z
      · exact .inl (.inl (fm.sub b z))
      · exact .inr z
      · exact .inl (tp b z))
    have ed2 : ds.drop i = d :: ds.drop (i + 1) := by
      have hlt := (List.getElem?_eq_some_iff.mp ed).1
      rw [List.drop_eq_getElem_cons hlt]
      congr 1
      exact (List.getElem?_eq_some_iff.mp ed).2
    rw [ed2] at ev2
    obtain ⟨ρ3, e3, e4⟩ := Option.bind_eq_some_iff.mp ev2
    obtain ⟨r3, e5, e6⟩ := Option.bind_eq_some_iff.mp e4
    have sr3 := sr2.same s3
    refine ⟨P2, ρ2, ρ3, d, rd, sr3.er, e3, fun σ3 er3 hl hj => ?_⟩
    have sr4 := sr3.assign hF er3 hj (ht d ρ2 ρ3 e3).2
    have fm4 : Frm ks' P H1 σ ρ P2 H3 σ3 ρ3 := (fm.trans (Frm.of_same s3)).trans (Frm.assign hF hj (ht d ρ2 ρ3 e3).2)
    refine qb Hb Pe P2 H3 σ3 ρ3 _ r3 sr4 e5 ?_
    cases r3 with
    | nx ρ5 => exact fun P5 σ5 H5 sr5 fm5 => ⟨P5, ρ5, sr5, fm4.trans fm5, e6⟩
    | rt w v =>
      cases e6
      exact k
  · rintro σ2 H2 ⟨P2, ρ2, sr2, fm, ev2⟩
    rw [List.drop_length] at ev2
    cases ev2
    have fm' := (Frm.of_same (ks := ks') (P := P) (σ := σ) (ρ := ρ) s1).trans fm
    exact k P2 σ2 H2 (sr.undem dm fm' sr2) (Frm.undem dm fm')

theorem psOr {st : Stmt} {t u : TS} (h : PS X st t) (g : PS X st u) : PS X st (fun D σ H => t D σ H ∨ u D σ H) :=
  ⟨fun pins s σ H D I q => q.elim (fun z => h.run pins s σ H D I z) fun z => g.run pins s σ H D I z⟩
theorem same_lock {Hb H : Hp} {a : Addr} {u : HO} (s : Same Hb H) (od : Obj) : Same (upd Hb a (.frz od u)) (upd H a (.frz od u)) := fun b o e => by
  by_cases c : b = a
  · subst c; rw [upd_same] at e ⊢; exact e
  · rw [L2.upd_ne c] at e ⊢; exact s b o e
theorem evS_forD {tg : Expr} {b : List Stmt} {is : List Nat} {asg : SG} {body : SS} {i : Nat} {x : Str} {p : Pos} (hp : PassesOwn (model X.prog X.w) X.A X.env X.xe) (hc : X.calm = true)
    (hi : X.N[i]? = some x) (hv : Vis X.env.scope x) (hd : (x == ("__debug__" : Str)) = false) (hcd : (x == ("__classdict__" : Str)) = false) (hki : kd ks i = .F ∨ kd ks i = .B)
    (hg : EvG X ks tg is asg) (ht : Touches asg is) (hF : ∀ j ∈ is, kd ks j = .F) (hb : EvSs X ks F b body)
    (hs : ∀ y, foldedSetIterable (.Name x p) X.env y = pure y) : EvS X ks F (.For tg (.Name x p) b [] pos) (sFor (cKeys i) asg body) := by
  obtain ⟨t, pt, q⟩ := evx_for (pos := pos) hp hc Dem.refl (evIx_keys (F := F) (ks := ks) (tg := tg) (pos := p) hi hv hd hcd) hg ht hF hb hs
  refine ⟨_, psOr pt (ps_lock pt), fun Hb Pe P H σ ρ D r sr ev k => ?_⟩
  obtain ⟨ds, e1, ev1⟩ := Option.bind_eq_some_iff.mp ev
  obtain ⟨tt, kvs, e2, rfl⟩ := cKeys_some e1
  obtain ⟨v, e3, rk⟩ := sr.er.2 i _ e2
  obtain ⟨a, ps, rfl, hh, hkv⟩ := rk.toB.dic
  have cases2 : (∃ u, isDO u ∧ H a = some u) ∨ ∃ o u, isDO u ∧ H a = some (.frz o u) := by
    cases tt with
    | false =>
      obtain ⟨kk, rd, _⟩ := hh
      rcases rd with rd | ⟨o, rd⟩
      · exact .inl ⟨.dK kk, trivial, rd⟩
      · exact .inr ⟨o, .dK kk, trivial, rd⟩
    | true =>
      obtain ⟨kk, rd, _⟩ := hh
      rcases rd with rd | ⟨o, rd⟩
      · exact .inl ⟨.dT kk, trivial, rd⟩
      · exact .inr ⟨o, .dT kk, trivial, rd⟩
  rcases cases2 with ⟨u, hu, ha⟩ | ⟨o, u, hu, ha⟩
  · -- an own slot's thing stands elsewhere
    have apart : ∀ j d' a', (kd ks j = .M ∨ kd ks j = .L) → ρ[j]? = some (some d') → isMut d' = true → σ[j]? = some (some (.ref a')) → a' ≠ a := by
      intro j d' a' hj e m es z
      subst z
      obtain ⟨a2, y1, y2, y3, _⟩ := sr.own j d' hj e m
      rw [es] at y1; cases y1
      rcases hki with hk | hk
      · rw [hk] at rk
        simp only [RepK, Rep] at rk
        obtain ⟨a3, _, ea, pa, _⟩ := rk
        cases ea
        exact y3 pa
      · exact sr.bord i _ a' hk e2 rfl e3 y2
    refine .inr ⟨a, u, ha, hu.mut, fun od => ?_⟩
    have lk := lck_on ha hu od
    have hbn : ∀ {b}, upd Hb a (.frz od u) b = none → Hb b = none := fun {b} e => by
      by_cases c : b = a
      · subst c; rw [upd_same] at e; cases e
      · rwa [L2.upd_ne c] at e
    have srL : SR X.mg (upd Hb a (.frz od u)) Pe P ks (upd H a (.frz od u)) σ ρ := {
      freE := fun b e => sr.freE b (hbn e)
      sub := sr.sub
      fre := sr.fre.lck lk
      keep := same_lock sr.keep od
      er := sr.er.lck lk
      own := fun j d' hj e m => by
        obtain ⟨a', y1, y2, y3, y4⟩ := sr.own j d' hj e m
        have ne := apart j d' a' hj e m y1
        exact ⟨a', y1, by rw [L2.upd_ne ne]; exact y2, y3, fun z => by rw [L2.upd_ne ne]; exact y4 z⟩
      dist := sr.dist
      bord := fun j d' a' hj e m es z => sr.bord j d' a' hj e m es (hbn z)
      nofn := sr.nofn }
    refine q (upd Hb a (.frz od u)) Pe P _ σ ρ _ r ⟨a, od, u, e3, upd_same⟩ srL ev ?_
    cases r with
    | nx ρ' =>
      intro P' σ' H' sr' fm
      have ha' : H' a = some (.frz od u) := fm.objs a _ upd_same (.inr fun z => z)
      refine ⟨ha', ?_⟩
      have lo := lck_off ha' hu
      have hne : ∀ {b}, H b ≠ none → upd H a (.frz od u) b ≠ none := fun {b} h z => h (lk.free b z)
      refine k P' σ' _ ⟨sr.freE, sr'.sub, sr'.fre.lck lo, fun b o e => ?_, sr'.er.lck lo, fun j d' hj e m => ?_, sr'.dist, fun j d' a' hj e m es z => ?_, sr'.nofn⟩ ⟨fm.sub, fun b h pb => fm.ext b (hne h) pb, fm.slots, fun b o e hx => ?_, fun c h z => ?_⟩
      · by_cases c : b = a
        · subst c
          have := sr.keep b o e
          rw [ha] at this; cases this
          exact upd_same
        · rw [L2.upd_ne c]; exact sr'.keep b o (by rw [L2.upd_ne c]; exact e)
      · obtain ⟨a', y1, y2, y3, y4⟩ := sr'.own j d' hj e m
        refine ⟨a', y1, hbn y2, y3, fun z => ?_⟩
        by_cases c : a' = a
        · subst c
          rw [upd_same] at y2; cases y2
        · rw [L2.upd_ne c]; exact y4 z
      · have h1 := sr'.bord j d' a' hj e m es
        obtain ⟨g1, g2⟩ := fm.slots j (.inr hj)
        exact sr.bord j d' a' hj (by rw [← g2]; exact e) m (by rw [← g1]; exact es) z
      · by_cases c : b = a
        · subst c; rw [ha] at e; cases e; exact upd_same
        · rw [L2.upd_ne c]
          exact fm.objs b o (by rw [L2.upd_ne c]; exact e) hx
      · by_cases c2 : c = a
        · subst c2; rw [upd_same] at z; cases z
        · rw [L2.upd_ne c2] at z
          exact fm.there c (hne h) z
    | rt w d =>
      intro v H' s r1 r2
      have ha' : H' a = some (.frz od u) := s a _ upd_same
      refine ⟨ha', k v _ (fun b o e => ?_) (Rep.lck (lck_off ha' hu) d v r1) fun z => ?_⟩
      · by_cases c : b = a
        · subst c
          have := sr.keep b o e
          rw [ha] at this; cases this
          exact upd_same
        · rw [L2.upd_ne c]; exact s b o (by rw [L2.upd_ne c]; exact e)
      · have := r2 z
        cases d <;> simp only [TopNew] at this ⊢ <;> exact fun b eb => hbn (this b eb)
  · exact .inl (q Hb Pe P H σ ρ D r ⟨a, o, u, e3, ha⟩ sr ev k)
end
end RE
/-! RE13k: list(d). -/
namespace RE
open PySem PySem.Spec PyProof.Rows L2

theorem crOr {X : Cx} {f : Value} {r1 r2 : List V → Hp → VK → Prop} (h : CallR X f r1) (g : CallR X f r2) : CallR X f (fun xs H Q => r1 xs H Q ∨ r2 xs H Q) := by
  intro pins s σ H vs us Q I r q
  rcases q with q | q
  · exact h pins s σ H vs us Q I r q
  · exact g pins s σ H vs us Q I r q
/-- list(..) of a text -/
theorem call_list_strH {X : Cx} (hc : X.calm = true) : CallR X (.type "list") (fun xs H Q => ∃ z : Str, xs = [.str z] ∧ z.length ≤ sizeLine ∧ ∀ p, H p = none → Q (.ref p) (upd H p (.lst (z.cps.toList.map fun c => .str ⟨#[c]⟩)))) := by
  intro pins s σ H xs us Q I r h
  obtain ⟨z, rfl, hz, q⟩ := h
  obtain ⟨u, rfl, t, rfl⟩ := vals1 r
  refine call_list_str (I.ok.hd hc) z t (fun h' tk acc' c' hkeep hS hacc => ?_) hz
  refine ⟨.ref s.heap.objs.size, _, I.laid hkeep (Nat.le_refl _) (show ObjOk X.prog X.w _ _ _ (.lst (z.cps.toList.map fun c => V.str ⟨#[c]⟩)) from ⟨?_, acc'.toList, c', ?_, ?_⟩), rfl, q _ (I.hok.fresh (Nat.le_refl _))⟩
  · rw [List.length_map, Array.length_toList]; exact hz
  · have el : acc'.toList.length = acc'.size := by simp
    refine vals_of_at (by rw [List.length_map, el, hacc.1, Array.length_toList]) fun j x w h1 h2 => ?_
    obtain ⟨c, u, hc1, hc2⟩ := hacc.2 j w (by rw [← Array.getElem?_toList]; exact h2)
    rw [List.getElem?_map, Array.getElem?_toList, hc1] at h1
    cases h1
    exact ⟨u, hc2⟩
  · rw [Array.toArray_toList]; exact hS
/-- list(..) of a list, a tuple, a dict, a text -/
def listDD : D → Option D
  | .dic _ kvs => some (.lst (kvs.map (·.1)))
  | .str z => if fits z.length then some (.lst (z.cps.toList.map fun c => .str ⟨#[c]⟩)) else none
  | d => listD d
def rList (K : PySem.W.Frag) : List V → Hp → VK → Prop := fun xs H Q => (∃ p ys, xs = [.ref p] ∧ (SqL K H p ys ∨ SqT K H p ys) ∧ ∀ l, H l = none → Q (.ref l) (upd H l (.lst ys))) ∨
  ((∃ (a : Addr) (kvs : List (Key × V)), xs = [.ref a] ∧ Rd H a (.dK kvs) ∧ ∀ p, H p = none → Q (.ref p) (upd H p (.lst (kvs.map fun kv => kV kv.1)))) ∨
  ((∃ d kvs, xs = [V.ref d] ∧ Rd H d (.dT kvs) ∧ ∀ p bs, H p = none → IsKeys H kvs bs → Q (.ref p) (upd H p (.lst (bs.map V.ref)))) ∨
  ∃ z : Str, xs = [.str z] ∧ z.length ≤ sizeLine ∧ ∀ p, H p = none → Q (.ref p) (upd H p (.lst (z.cps.toList.map fun c => .str ⟨#[c]⟩)))))
theorem cr_list {X : Cx} (hc : X.calm = true) : CallR X (.type "list") (rList X.K) := crOr call_list_of (crOr (call_listD hc) (crOr (call_list_dT hc) (call_list_strH hc)))
theorem repL_isKeys {P : Addr → Prop} {H : Hp} : ∀ {kvs : List (List Key × V)} {bs : List Addr}, IsKeys H kvs bs → RepL P H (kvs.map fun q => .tup (q.1.map keyD)) (bs.map V.ref)
  | _, _, .nil => by simp only [List.map_nil, RepL]
  | _, _, .cons h t => by
    simp only [List.map_cons, RepL]
    refine ⟨_, _, rfl, ?_, repL_isKeys t⟩
    simp only [Rep]
    exact ⟨_, _, rfl, h, repL_keys _⟩
theorem listDD_ok {mg K} : RcOk mg (rList K) (op1 listDD) := rc1 fun P H x d v Q fr rx e k => by
  cases x with
  | dic t kvs =>
    simp only [listDD] at e
    cases e
    obtain ⟨a, ps, rfl, hh, hkv⟩ := rx.dic
    have hkeys := hkv.keys
    cases t with
    | false =>
      obtain ⟨kk, rd, rfl⟩ := hh
      refine .inr (.inl ⟨a, kk, rfl, rd, fun p hp => k _ _ (same_new hp) (rep_newL fr hp ?_) (topNew_ref hp)⟩)
      rw [hkeys, List.map_map]
      have := repL_keys (P := P) (H := H) (kk.map (·.1))
      rw [List.map_map, List.map_map] at this
      exact this
    | true =>
      obtain ⟨kk, rd, rfl⟩ := hh
      refine .inr (.inr (.inl ⟨a, kk, rfl, rd, fun p bs hp hb => k _ _ (same_new hp) (rep_newL fr hp ?_) (topNew_ref hp)⟩))
      rw [hkeys, List.map_map]
      exact repL_isKeys hb
  | str z =>
    simp only [listDD] at e
    split at e
    · rename_i hz
      cases e
      have rx : ∃ t, v = .str z := ⟨0, by simpa only [RepB, Rep] using rx⟩
      obtain ⟨_, rfl⟩ := rx
      exact .inr (.inr (.inr ⟨z, rfl, of_decide_eq_true hz, fun p hp => k _ _ (same_new hp) (rep_newL fr hp (RepL.chars _)) (topNew_ref hp)⟩))
    · cases e
  | lst xs =>
    have e : listD (.lst xs) = some d := e
    exact .inl (listD_ok (mg := mg) (K := K) P H [.lst xs] d [v] Q fr ⟨v, [], rfl, rx, rfl⟩ e k)
  | tup xs =>
    have e : listD (.tup xs) = some d := e
    exact .inl (listD_ok (mg := mg) (K := K) P H [.tup xs] d [v] Q fr ⟨v, [], rfl, rx, rfl⟩ e k)
  | _ => cases e
end RE
/-! RE13l: dict(a list of pairs): keys alone or tuples. -/
namespace RE
open PySem PySem.Spec PyProof.Rows L2

def mergeT (kvs more : List (List Key × V)) : List (List Key × V) := more.foldl (fun acc kv => putK acc kv.1 kv.2) kvs
theorem length_mergeT : ∀ (more kvs : List (List Key × V)), (mergeT kvs more).length ≤ kvs.length + more.length
  | [], kvs => by show kvs.length ≤ kvs.length + 0; omega
  | p :: r, kvs => by
    have h1 := length_mergeT r (putK kvs p.1 p.2)
    have h2 := length_putK kvs p.1 p.2
    show (mergeT (putK kvs p.1 p.2) r).length ≤ _
    rw [List.length_cons]; omega
/-- a pair's own place, with what stands in it: its key's place b, key ks, value v -/
def PairT (K : PySem.W.Frag) (H : Hp) (p : Addr) (z : (List Key × V) × Addr) : Prop := SqT K H p [.ref z.2, z.1.2] ∧ H z.2 = some (.tup (z.1.1.map kV))
section
variable {X : Cx}
theorem pairsT_of {pins : List (Addr × Obj)} {σ : L2.St} {H : Hp} {s : Shared} (I : Inv X pins σ H s) : ∀ {ps : List Addr} {zs : List ((List Key × V) × Addr)}, Paired (PairT X.K H) ps zs →
    ∃ prs : List (List Key × Addr × Value), KT H (zs.map (·.1)) prs ∧ prs.length = ps.length ∧ (∀ q ∈ prs, H q.2.1 = some (.tup (q.1.map kV))) ∧ ∀ (j : Nat) (q : List Key × Addr × Value), prs[j]? = some q → ∃ (b : Addr), ps[j]? = some b ∧ IsTup s.heap b #[.ref q.2.1, q.2.2]
  | _, _, .nil => ⟨[], .nil, rfl, fun _ h => (nomatch h), fun j q e => by simp at e⟩
  | _, _, .cons (a := p) (b := z) h t => by
    obtain ⟨prs, r, hl, hk, hp⟩ := pairsT_of I t
    obtain ⟨its, rv, ht, _⟩ := I.tuple h.1
    obtain ⟨u, y, ei, ru, ry⟩ := vals2 rv
    subst ei
    cases (show u = Value.ref z.2 from ru)
    refine ⟨(z.1.1, z.2, y) :: prs, .cons ⟨rfl, h.2, ry⟩ r, by rw [List.length_cons, List.length_cons, hl], fun q hq => ?_, fun j q e => ?_⟩
    · rcases List.mem_cons.mp hq with rfl | hq
      · exact h.2
      · exact hk q hq
    · cases j with
      | zero =>
        have e' : (z.1.1, z.2, y) = q := Option.some.inj e
        subst e'
        exact ⟨p, rfl, ht⟩
      | succ j =>
        obtain ⟨b, e1, e2⟩ := hp j q (by simpa using e)
        exact ⟨b, by simpa using e1, e2⟩
theorem KT.merge {H : Hp} : ∀ {more : List (List Key × V)} {rs : List (List Key × Addr × Value)} {kvs : List (List Key × V)} {vs : List (List Key × Addr × Value)}, KT H more rs → KT H kvs vs → KT H (mergeT kvs more) (storedAllH vs rs) := by
  intro more rs kvs vs r
  unfold KT at r
  induction r generalizing kvs vs with
  | nil => intro q; exact q
  | @cons p q ps qs h t ih =>
    intro g
    obtain ⟨e1, e2, e3⟩ := h
    show KT H (mergeT (putK kvs p.1 p.2) ps) (storedAllH (storedH vs q.1 q.2.1 q.2.2) qs)
    rw [← e1]
    exact ih (g.put p.1 e2 e3)
def rDictT (K : PySem.W.Frag) : List V → Hp → VK → Prop := fun xs H Q => ∃ (a : Addr) (ps : List Addr) (zs : List ((List Key × V) × Addr)), xs = [.ref a] ∧ SqL K H a (ps.map V.ref) ∧ Paired (PairT K H) ps zs ∧
    ∀ p, H p = none → Q (.ref p) (upd H p (.dT (mergeT [] (zs.map (·.1)))))
theorem cr_dictT (hcalm : X.calm = true) (hu : X.A.units + 128 < cLine) : CallR X (.type "dict") (rDictT X.K) := by
  intro pins s σ H xs us Q I r q
  obtain ⟨a, ps, zs, ex, hq, hp, q⟩ := q
  subst ex
  obtain ⟨u, eu, rx⟩ := vals1 r
  subst eu
  cases rx
  obtain ⟨its, rv, pl, hz⟩ := I.list hq
  have ei := refs_at rv
  subst ei
  rw [List.length_map] at hz
  obtain ⟨prs, rel, hl, hk, hpr⟩ := pairsT_of I hp
  obtain ⟨o, n, ho, hc, hd, hdat⟩ := pl
  have P := PairArg.list (prog := X.prog) (w := X.w) a (ps.map Value.ref).toArray (fun j => ps.getD j 0) (prs.map fun q => (Value.ref q.2.1, q.2.2))
  have hlen : (prs.map fun q => (Value.ref q.2.1, q.2.2)).length = prs.length := List.length_map _
  refine call_dict_pairsH (knd := tupleKind (mixKind X.prog X.w)) (ps := prs) P (I.ok.hd hcalm) ?_ ⟨⟨o, n, ho, hc, hd, hdat⟩, ?_, fun j k v e => ?_⟩ ⟨hlen.symm, fun i key v e => ?_⟩ (fun h' hk' x hx => ?_) (by rw [hlen, hl]; exact hz) fun h' tk hd' kp => ?_
  · show (X.A.in1.in1).units < cLine
    have e1 : (X.A.in1.in1).units ≤ X.A.units + 2 := Nat.le_refl _
    omega
  · simp [hl]
  · rw [List.getElem?_map] at e
    obtain ⟨q', e1, e2⟩ := Option.map_eq_some_iff.mp e
    obtain ⟨b, e3, e4⟩ := hpr j q' e1
    cases e2
    have e5 : ps.getD j 0 = b := by rw [List.getD_eq_getElem?_getD, e3]; rfl
    refine ⟨by simp [e3, e5], ?_⟩
    show PairAt _ (ps.getD j 0) _ _
    rw [e5]
    exact .inl e4
  · have e : (prs.map fun q => (Value.ref q.2.1, q.2.2))[i]? = some (key, v) := e
    rw [List.getElem?_map] at e
    obtain ⟨q', e1, e2⟩ := Option.map_eq_some_iff.mp e
    cases e2
    exact ⟨q'.1, q'.2.1, e1, rfl⟩
  · obtain ⟨o', its', n', g1, g2, g3, g4⟩ := key_of I.hok (hk x hx)
    exact ⟨o', its', n', hk' _ _ (Nat.ne_of_lt (Heap.lt_size g1)) (by simp) g1, g2, g3, g4⟩
  · have hm : (s.heap.objs.size == sysModules) = false := beq_eq_false_iff_ne.mpr (Nat.ne_of_gt I.big)
    have hlen2 : (mergeT [] (zs.map (·.1))).length ≤ sizeLine := by
      refine Nat.le_trans (length_mergeT _ []) ?_
      rw [List.length_nil, Nat.zero_add, Paired.length rel, hl]
      exact hz
    have nD : H s.heap.objs.size = none := I.hok.fresh (Nat.le_refl _)
    obtain ⟨q', es, ep, hq', h2, h3, h4, _, h5⟩ := hd'
    have rel2 : KT H (mergeT [] (zs.map (·.1))) (storedAllH [] prs) := KT.merge rel .nil
    refine ⟨.ref s.heap.objs.size, upd H s.heap.objs.size (.dT (mergeT [] (zs.map (·.1)))), I.laid (t' := tk) (fun b o e => kp b o (by simp) e) (Nat.le_refl _) (show ObjOk X.prog X.w _ _ _ (.dT (mergeT [] (zs.map (·.1)))) from ⟨hlen2, hm, _, rel2.keeps fun b ys e => ?_, q', es, ep, hq', h2, h3, h4, h5⟩), rfl, q _ nD⟩
    rw [upd_ne (fun z => by rw [z, nD] at e; cases e)]
    exact e
end
/-! ### the function of trees -/
def dAll (t : Bool) : List (D × D) → List D → Option (List (D × D))
  | acc, [] => some acc
  | acc, .tup [k, v] :: xs => (dput t acc k v).bind fun acc' => dAll t acc' xs
  | _, _ => none
def isKP : D → Bool
  | .tup [k, _] => (keyA k).isSome
  | _ => false
def dictD : D → Option D
  | .lst [] => some (.dic true [])
  | .lst (x :: xs) => if isKP x then (dAll false [] (x :: xs)).map (.dic false) else (dAll true [] (x :: xs)).map (.dic true)
  | _ => none
def rDict (K : PySem.W.Frag) : List V → Hp → VK → Prop := fun xs H Q => (∃ (a : Addr) (ps : List Addr) (kvs : List (Key × V)), xs = [.ref a] ∧ SqL K H a (ps.map V.ref) ∧ Paired (fun p kv => SqT K H p [kV kv.1, kv.2]) ps kvs ∧
    ∀ p, H p = none → Q (.ref p) (upd H p (.dK (mergeK [] kvs)))) ∨ rDictT K xs H Q
theorem cr_dict {X : Cx} (hc : X.calm = true) (hu : X.A.units + 128 < cLine) : CallR X (.type "dict") (rDict X.K) := crOr (call_dictP hc) (cr_dictT hc hu)
theorem dAll_K {K : PySem.W.Frag} {P : Addr → Prop} {H : Hp} : ∀ {xs : List D} {vs : List V} {acc res : List (D × D)} {kvs : List (Key × V)}, RepL P H xs vs → dAll false acc xs = some res → RepKV P H acc (kvs.map fun z => (keyD z.1, z.2)) →
    ∃ (ps : List Addr) (more : List (Key × V)), vs = ps.map V.ref ∧ Paired (fun p kv => SqT K H p [kV kv.1, kv.2]) ps more ∧ RepKV P H res ((mergeK kvs more).map fun z => (keyD z.1, z.2))
  | [], vs, acc, res, kvs, r, e, g => by
    simp only [RepL] at r
    subst r
    cases e
    exact ⟨[], [], rfl, .nil, g⟩
  | .tup [k, v] :: xs, vs, acc, res, kvs, r, e, g => by
    simp only [RepL] at r
    obtain ⟨w, ws, rfl, r1, r2⟩ := r
    simp only [dAll] at e
    obtain ⟨acc', e1, e2⟩ := Option.bind_eq_some_iff.mp e
    simp only [Rep, RepL] at r1
    obtain ⟨p, us, rfl, hp, u1, us1, e3, r3, u2, us2, e4, r4, e5⟩ := r1
    subst e5 e4 e3
    unfold dput at e1
    simp only at e1
    obtain ⟨q, e6, e7⟩ := Option.map_eq_some_iff.mp e1
    have ek := keyA_some e6
    subst ek
    have eu := rep_key e6 r3
    subst eu
    have g' := kv_put keyA keyD keyA_keyD q r4 g
    rw [e7] at g'
    obtain ⟨ps, more, rfl, h1, h2⟩ := dAll_K (K := K) (kvs := putK kvs q u2) r2 e2 g'
    exact ⟨p :: ps, (q, u2) :: more, rfl, .cons (SqT.of hp) h1, h2⟩
  | .non :: _, _, _, _, _, _, e, _ => by cases e
  | .bl _ :: _, _, _, _, _, _, e, _ => by cases e
  | .int _ :: _, _, _, _, _, _, e, _ => by cases e
  | .str _ :: _, _, _, _, _, _, e, _ => by cases e
  | .lst _ :: _, _, _, _, _, _, e, _ => by cases e
  | .dic _ _ :: _, _, _, _, _, _, e, _ => by cases e
  | .scr _ :: _, _, _, _, _, _, e, _ => by cases e
  | .fn _ :: _, _, _, _, _, _, e, _ => by cases e
  | .tup [] :: _, _, _, _, _, _, e, _ => by cases e
  | .tup [_] :: _, _, _, _, _, _, e, _ => by cases e
  | .tup (_ :: _ :: _ :: _) :: _, _, _, _, _, _, e, _ => by cases e
theorem dAll_T {K : PySem.W.Frag} {P : Addr → Prop} {H : Hp} : ∀ {xs : List D} {vs : List V} {acc res : List (D × D)} {kvs : List (List Key × V)}, RepL P H xs vs → dAll true acc xs = some res → RepKV P H acc (kvs.map fun z => (.tup (z.1.map keyD), z.2)) →
    ∃ (ps : List Addr) (zs : List ((List Key × V) × Addr)), vs = ps.map V.ref ∧ Paired (PairT K H) ps zs ∧ RepKV P H res ((mergeT kvs (zs.map (·.1))).map fun z => (.tup (z.1.map keyD), z.2))
  | [], vs, acc, res, kvs, r, e, g => by
    simp only [RepL] at r
    subst r
    cases e
    exact ⟨[], [], rfl, .nil, g⟩
  | .tup [k, v] :: xs, vs, acc, res, kvs, r, e, g => by
    simp only [RepL] at r
    obtain ⟨w, ws, rfl, r1, r2⟩ := r
    simp only [dAll] at e
    obtain ⟨acc', e1, e2⟩ := Option.bind_eq_some_iff.mp e
    simp only [Rep, RepL] at r1
    obtain ⟨p, us, rfl, hp, u1, us1, e3, r3, u2, us2, e4, r4, e5⟩ := r1
    subst e5 e4 e3
    unfold dput at e1
    simp only at e1
    obtain ⟨q, e6, e7⟩ := Option.map_eq_some_iff.mp e1
    have ek := keyT_some e6
    subst ek
    simp only [Rep] at r3
    obtain ⟨b, vs3, rfl, hb, r5⟩ := r3
    have := r5.keys
    subst this
    have g' := kv_put keyT (fun ks => .tup (ks.map keyD)) (fun ks => keysA_map ks) q r4 g
    rw [e7] at g'
    obtain ⟨ps, zs, rfl, h1, h2⟩ := dAll_T (K := K) (kvs := putK kvs q u2) r2 e2 g'
    exact ⟨p :: ps, ((q, u2), b) :: zs, rfl, .cons ⟨SqT.of hp, hb⟩ h1, h2⟩
  | .non :: _, _, _, _, _, _, e, _ => by cases e
  | .bl _ :: _, _, _, _, _, _, e, _ => by cases e
  | .int _ :: _, _, _, _, _, _, e, _ => by cases e
  | .str _ :: _, _, _, _, _, _, e, _ => by cases e
  | .lst _ :: _, _, _, _, _, _, e, _ => by cases e
  | .dic _ _ :: _, _, _, _, _, _, e, _ => by cases e
  | .scr _ :: _, _, _, _, _, _, e, _ => by cases e
  | .fn _ :: _, _, _, _, _, _, e, _ => by cases e
  | .tup [] :: _, _, _, _, _, _, e, _ => by cases e
  | .tup [_] :: _, _, _, _, _, _, e, _ => by cases e
  | .tup (_ :: _ :: _ :: _) :: _, _, _, _, _, _, e, _ => by cases e
theorem rep_newD {P : Addr → Prop} {H : Hp} {t : Bool} {p : Addr} {kvs : List (D × D)} {ps : List (D × V)} {o : HO} (fr : Fre P H) (hp : H p = none) (h : RepKV P H kvs ps) (hh : HD t (upd H p o) p ps) : Rep P (upd H p o) (.dic t kvs) (.ref p) := by
  simp only [Rep]
  exact ⟨p, ps, rfl, fr p hp, hh, h.same (same_new hp)⟩
theorem dictD_ok {mg K} : RcOk mg (rDict K) (op1 dictD) := rc1 fun P H x d v Q fr rx e k => by
  have caseT : ∀ (xs : List D) (kvs : List (D × D)) (vs : List V) (a : Addr), v = .ref a → H a = some (.lst vs) → RepL P H xs vs → dAll true [] xs = some kvs → d = .dic true kvs → rDictT K [v] H Q := by
    rintro xs kvs vs a rfl ha hv e1 rfl
    obtain ⟨ps, zs, rfl, h1, h2⟩ := dAll_T (K := K) (kvs := []) hv e1 (by simp [RepKV])
    refine ⟨a, ps, zs, rfl, SqL.of ha, h1, fun p hp => k _ _ (same_new hp) (rep_newD fr hp h2 ⟨_, .inl (upd_same), rfl⟩) (topNew_ref hp)⟩
  cases x with
  | lst xs =>
    simp only [RepB] at rx
    obtain ⟨a, vs, rfl, ha, hv⟩ := rx
    match xs, e with
    | [], e =>
      have e := Option.some.inj (show some (D.dic true []) = some d from e)
      exact .inr (caseT [] [] vs a rfl ha hv rfl e.symm)
    | x :: xs, e =>
      simp only [dictD] at e
      split at e
      · obtain ⟨kvs, e1, e2⟩ := Option.map_eq_some_iff.mp e
        subst e2
        obtain ⟨ps, more, rfl, h1, h2⟩ := dAll_K (K := K) (kvs := []) hv e1 (by simp [RepKV])
        exact .inl ⟨a, ps, more, rfl, SqL.of ha, h1, fun p hp => k _ _ (same_new hp) (rep_newD fr hp h2 ⟨_, .inl (upd_same), rfl⟩) (topNew_ref hp)⟩
      · obtain ⟨kvs, e1, e2⟩ := Option.map_eq_some_iff.mp e
        exact .inr (caseT (x :: xs) kvs vs a rfl ha hv e1 e2.symm)
  | _ => cases e
end RE
/-! RE13m: dict comprehensions over d.items(), d.update(e). -/
namespace RE
open PySem PySem.Spec PyProof.Rows L2

/-! ### d.items() -/
/-- the rows (key, value) of the dict in slot i -/
def cItems (i : Nat) : SL := fun _ ρ => match ρ[i]? with
  | some (some (.dic false kvs)) => some (kvs.map fun kv => .tup [kv.1, kv.2])
  | _ => none
theorem cItems_some {i : Nat} {F : Fn} {ρ : RE.Env} {ds : List D} (h : cItems i F ρ = some ds) : ∃ kvs, ρ[i]? = some (some (.dic false kvs)) ∧ ds = kvs.map fun kv => .tup [kv.1, kv.2] := by
  unfold cItems at h
  split at h
  · rename_i kvs e
    cases h
    exact ⟨kvs, e, rfl⟩
  · cases h
theorem RepKV.at {P : Addr → Prop} {H : Hp} : ∀ {kvs : List (D × D)} {kk : List (Key × V)} {i : Nat} {k : Key} {v : V}, RepKV P H kvs (kk.map fun q => (keyD q.1, q.2)) → kk[i]? = some (k, v) → ∃ d, kvs[i]? = some (keyD k, d) ∧ Rep P H d v
  | [], kk, i, k, v, h, e => by
    unfold RepKV at h
    rw [List.map_eq_nil_iff.mp h] at e
    cases e
  | (q, d) :: kvs, kk, i, k, v, h, e => by
    unfold RepKV at h
    obtain ⟨w, r, e1, h1, h2⟩ := h
    cases kk with
    | nil => cases e1
    | cons z kk =>
      rw [List.map_cons] at e1
      injection e1 with e2 e3
      subst e3
      injection e2 with e4 e5
      cases i with
      | zero =>
        rw [List.getElem?_cons_zero] at e
        cases e
        have e5 : v = w := e5
        have e4 : keyD k = q := e4
        subst e5 e4
        exact ⟨d, rfl, h1⟩
      | succ i =>
        rw [List.getElem?_cons_succ] at e
        obtain ⟨d', g1, g2⟩ := RepKV.at h2 e
        exact ⟨d', by rw [List.getElem?_cons_succ]; exact g1, g2⟩
theorem evIx_items {X : Cx} {ks : Ks} {F : Fn} {elts : List Expr} {kk : Nat} {tpos pos apos cpos : Pos} {i : Nat} {x : Str} (hN : X.N[i]? = some x) (hv : Vis X.env.scope x) (hd : (x == ("__debug__" : Str)) = false) (hcd : (x == ("__classdict__" : Str)) = false)
    (hline : (apos.endLine == cpos.line) = true) :
    EvIx (LockAt i) X ks F (.Tuple elts kk tpos) (.Call (.Attribute (.Name x pos) "items" apos) [] [] cpos) (cItems i) := by
  refine ⟨_, pi_items (pe_var hN hv hd hcd) rfl hline, fun σ H hL P ρ R ds fr er ev k => ?_⟩
  obtain ⟨kvs, e1, rfl⟩ := cItems_some ev
  obtain ⟨v, e2, r⟩ := er.2 i _ e1
  obtain ⟨a, o, u, e3, ha⟩ := hL
  rw [e2] at e3; cases e3
  obtain ⟨b, ps, eb, hh, hkv⟩ := r.toB.dic
  cases eb
  obtain ⟨kk, rd, rfl⟩ := hh
  rcases rd with rd | ⟨o', rd⟩
  · rw [ha] at rd; cases rd
  · rw [ha] at rd; cases rd
    have hlen : kk.length = kvs.length := by have := hkv.len; rw [List.length_map] at this; exact this
    refine ⟨.ref a, e2, a, o, kk, rfl, ha, k _ H [] (Same.refl H) (fun P2 hp2 => ⟨by simp, fun H2 j kp hj => ?_, fun H2 kp => ?_, fun H2 j x H3 kp hj y => ?_⟩) (by simp)⟩
    · refine ⟨kp _ _ ha (.inr (.inl fun z => z)), ?_⟩
      rw [List.length_map] at hj
      omega
    · refine ⟨kp _ _ ha (.inr (.inl fun z => z)), ?_⟩
      rw [List.length_map]
      omega
    · obtain ⟨T, q, w, e4, rfl, hT, rfl⟩ := y
      obtain ⟨d, g1, g2⟩ := RepKV.at hkv e4
      have g3 : Rep P2 H2 d w := (Rep.mono (Same.refl _) hp2 d w g2).kept kp
      refine ⟨same_new hT, .tup [keyD q, d], ?_, ?_⟩
      · rw [List.getElem?_map, g1]; rfl
      · simp only [Rep]
        refine ⟨T, _, rfl, upd_same, ?_⟩
        simp only [RepL]
        exact ⟨_, _, rfl, rep_keyV q, _, _, rfl, g3.same (same_new hT), rfl⟩
theorem evx_dc (k : Bool) {L : L2.St → Hp → Prop} {X : Cx} {ks ks' : Ks} {F : Fn} {kx vx tg iter : Expr} {ifs : List Expr} {scope : Scope} {own : List (Str × Nat)} {pos : Pos} {fi : SL} {is : List Nat} {asg : SG} {ft : SB} {fk fe : SE} (hu : X.A.units + 1 < cLine) (hc : X.calm = true) (hN : X.N.Nodup)
    (hi : EvIx L X ks F tg iter fi) (ok : BlkOk X.N X.env.scope scope own) (his : ∀ j ∈ is, j ∈ own.map (·.2)) (hk : ∀ i, i ∉ own.map (·.2) → kd ks' i = kd ks i)
    (hg : ∀ (s : Shared) (H : Hp) (C : Addr) (cl : List (Str × Addr)) (fp : List Addr), EvG (X.blk s H scope (compEnvC scope cl C X.env) fp) ks' tg is asg)
    (ht : ∀ (s : Shared) (H : Hp) (C : Addr) (cl : List (Str × Addr)) (fp : List Addr), EvTs (X.blk s H scope (compEnvC scope cl C X.env) fp) ks' F ifs ft)
    (hx : ∀ (s : Shared) (H : Hp) (C : Addr) (cl : List (Str × Addr)) (fp : List Addr), EvE (X.blk s H scope (compEnvC scope cl C X.env) fp) ks' F kx fk)
    (he : ∀ (s : Shared) (H : Hp) (C : Addr) (cl : List (Str × Addr)) (fp : List Addr), EvE (X.blk s H scope (compEnvC scope cl C X.env) fp) ks' F vx fe)
    (hs : ∀ x, foldedSetIterable iter X.env x = pure x) : ∃ t : TE, PE X (.DictComp kx vx [⟨tg, iter, ifs, 0⟩] scope pos) t ∧ ∀ σ H, L σ H → Cn X.mg H ks F (cDc k (own.map (·.2)) fi asg ft fk fe) σ (fun P d v H' => Rep P H' d v ∧ TopNew H d v ∧ ∀ a, v = .ref a → Chg (H' a)) t := by
  obtain ⟨wi, pi, q⟩ := hi.ex
  refine ⟨_, pe_dg k hu (g := tG X.mg ks' is asg) (tt := tT X.mg ks' F ft) (tk := tE X.mg ks' F fk) (tv := tE X.mg ks' F fe) hc hN pi ok (fun s H C cl fp => (hg s H C cl fp).can) (fun s H C cl fp => (ht s H C cl fp).can) (fun s H C cl fp => (hx s H C cl fp).can) (fun s H C cl fp => (he s H C cl fp).can) hs, fun σ H hL P ρ Q d fr er ev kQ => ?_⟩
  obtain ⟨ds, e1, e2⟩ := Option.bind_eq_some_iff.mp ev
  refine q σ H hL P ρ _ ds fr er e1 fun J H1 src s1 wk top Dl hD => ?_
  have fr1 := fr.same s1
  have er1 := er.same s1
  have wk := wk (fun b => P b ∧ b ≠ Dl) fun a ha pa => ⟨pa, fun e => ha (e ▸ hD)⟩
  have kept : ∀ H2, (∀ b o, H1 b = some o → H2 b = some o) → Kept (fun b => P b ∧ b ≠ Dl) src H1 H2 := fun H2 h b o e _ => h b o e
  let Pv : Nat → Hp → Prop := fun i H2 => ∃ kvs, dcFold (dcOne asg ft fk fe F (wipeE ρ (own.map (·.2)))) (.dic k []) (ds.take i) = some (.dic k kvs) ∧ RepB X.mg (fun b => P b ∧ b ≠ Dl) H2 (.dic k kvs) (.ref Dl) ∧ Chg (H2 Dl) ∧ ∀ b o, H1 b = some o → H2 b = some o
  refine it_gen (n := ds.length) (Pv := Pv) ?_ ?_ ?_ ?_
  · refine ⟨[], by simp [dcFold], ?_, ?_, fun b o e => ?_⟩
    · simp only [RepB]
      cases k
      · exact ⟨Dl, [], rfl, ⟨[], .inl upd_same, rfl⟩, by simp only [RepKV]⟩
      · exact ⟨Dl, [], rfl, ⟨[], .inl upd_same, rfl⟩, by simp only [RepKV]⟩
    · rw [upd_same]; cases k <;> trivial
    · rw [upd_ne (ne_of_none e hD)]; exact e
  · rintro i H2 hi ⟨kvs, _, _, _, h⟩
    exact wk.goes H2 i (kept H2 h) hi
  · rintro H2 ⟨kvs, hf, hr, hch, hkp⟩
    refine ⟨wk.stops H2 (kept H2 hkp), ?_⟩
    rw [List.take_length, e2] at hf
    cases hf
    refine kQ _ H2 (s1.trans hkp) ⟨?_, topNew_ref (s1.free hD), fun a ea => by cases ea; exact hch⟩
    simp only [RepB] at hr
    obtain ⟨a, ps, ea, h1, h2⟩ := hr
    cases ea
    simp only [Rep]
    exact ⟨Dl, ps, rfl, fr1 Dl hD, h1, h2.weak fun a z => z.1⟩
  · rintro i x H2 H3 hi ⟨kvs, hf, hr, hch, hkp⟩ yl
    obtain ⟨s3, d', hd, rd⟩ := wk.yields H2 i x H3 (kept H2 hkp) hi yl
    have e3 : ds.take (i + 1) = ds.take i ++ [d'] := by rw [List.take_add_one, hd]; rfl
    have e4 : ∃ z, dcFold (dcOne asg ft fk fe F (wipeE ρ (own.map (·.2)))) (.dic k []) (ds.take (i + 1)) = some z := by
      have := dcFold_app (dcOne asg ft fk fe F (wipeE ρ (own.map (·.2)))) (ds.take (i + 1)) (ds.drop (i + 1)) (.dic k [])
      rw [List.take_append_drop, e2] at this
      obtain ⟨z, hz, _⟩ := Option.bind_eq_some_iff.mp this.symm
      exact ⟨z, hz⟩
    obtain ⟨z, e4⟩ := e4
    have e4' := e4
    rw [e3, dcFold_app, hf] at e4
    simp only [Option.bind_some, dcFold] at e4
    obtain ⟨p, e6, e6'⟩ := Option.bind_eq_some_iff.mp e4
    obtain ⟨z', e6'', ez⟩ := Option.bind_eq_some_iff.mp e6'
    cases ez
    obtain ⟨ρ', e7, e8⟩ := Option.bind_eq_some_iff.mp e6
    obtain ⟨b, e9, e10⟩ := Option.bind_eq_some_iff.mp e8
    have all3 : ∀ b o, H1 b = some o → H3 b = some o := fun b o e => s3 b o (hkp b o e)
    have hD2 : H2 Dl ≠ none := fun z => by rw [z] at hch; exact hch
    have keepD : ∀ {H'}, Same H2 H' → Chg (H' Dl) ∧ H' Dl ≠ none := fun {H'} s => by
      cases ho : H2 Dl with
      | none => exact absurd ho hD2
      | some o => rw [s _ _ ho, ← ho]; exact ⟨hch, hD2⟩
    have fr3 : Fre (fun b => P b ∧ b ≠ Dl) H3 := fre_minus (fr1.same all3) (keepD s3).2
    have er3 : ER X.mg (fun b => P b ∧ b ≠ Dl) ks' H3 (L2.wipe σ (own.map (·.2))) (wipeE ρ (own.map (·.2))) := ER.wipe (er1.mono all3 fun a ha pa => ⟨pa, fun e => ha (e ▸ hD)⟩) hk
    refine ⟨_, _, _, d', rd, er3, e7, fun σ' er' hl' hj => ⟨wipe_eq hl' hj his, ?_⟩⟩
    refine ⟨_, ρ', b, fr3, er', e9, fun H4 s4 => ?_⟩
    have all4 : ∀ b o, H1 b = some o → H4 b = some o := fun b o e => s4 b o (all3 b o e)
    cases b with
    | false =>
      rw [if_neg Bool.false_ne_true] at e10
      refine iteF ?_
      cases e10
      cases e6''
      exact ⟨kvs, e4', (hr.same s3).same s4, (keepD (s3.trans s4)).1, all4⟩
    | true =>
      rw [if_pos rfl] at e10
      refine iteT ?_
      obtain ⟨y, e11, e12⟩ := Option.bind_eq_some_iff.mp e10
      obtain ⟨zz, e13, rfl⟩ := Option.map_eq_some_iff.mp e12
      refine ⟨_, ρ', y, fr3.same s4, er'.same s4, e11, fun v H5 s5 r5 => ?_⟩
      refine ⟨_, ρ', zz, (fr3.same s4).same s5, (er'.same s4).same s5, e13, fun w H6 s6 r6 => ?_⟩
      have s26 : Same H2 H6 := ((s3.trans s4).trans s5).trans s6
      obtain ⟨kvs', rfl⟩ := putD_dic e6''
      have r5' : RepB X.mg (fun b => P b ∧ b ≠ Dl) H6 y v := (r5.same s6).toB
      obtain ⟨_, uo, cu, hst, rr⟩ := putD_ok (mg := X.mg) (P := fun b => P b ∧ b ≠ Dl) (keepD s26).1 (fun z => z.2 rfl) (hr.same s26) r5' r6 e6''
      have fin : Pv (i + 1) (upd H6 Dl uo) := ⟨kvs', e4', rr, by rw [upd_same]; exact cu, fun b o e => by
        rw [upd_ne (ne_of_none e hD)]
        exact s6 b o (s5 b o (all4 b o e))⟩
      rcases hst with ⟨p, xs, n, m, z1, z2, z3, z4, z5⟩ | ⟨bb, H', z1, z2, z3⟩
      · exfalso
        cases z1
        have := (hr.same s26).dic
        obtain ⟨a2, ps2, ea2, hd2, _⟩ := this
        cases ea2
        cases k
        · obtain ⟨kk, rd2, _⟩ := hd2
          rcases rd2 with rd2 | ⟨o, rd2⟩ <;> rw [z3] at rd2 <;> cases rd2
        · obtain ⟨kk, rd2, _⟩ := hd2
          rcases rd2 with rd2 | ⟨o, rd2⟩ <;> rw [z3] at rd2 <;> cases rd2
      · cases z1
        exact ⟨H', z2, by rw [z3]; exact fin⟩
/-- {kx: vx for (..) in x.items() if ..} -/
theorem evM_dcI {X : Cx} {ks ks' : Ks} {F : Fn} {kx vx : Expr} {elts : List Expr} {kk : Nat} {tpos apos cpos : Pos} {ifs : List Expr} {scope : Scope} {own : List (Str × Nat)} {pos p : Pos} {i : Nat} {x : Str} {is : List Nat} {asg : SG} {ft : SB} {fk fe : SE} (k : Bool) (hu : X.A.units + 1 < cLine) (hc : X.calm = true) (hN : X.N.Nodup)
    (hi : X.N[i]? = some x) (hv : Vis X.env.scope x) (hd : (x == ("__debug__" : Str)) = false) (hcd : (x == ("__classdict__" : Str)) = false) (hline : (apos.endLine == cpos.line) = true) (ok : BlkOk X.N X.env.scope scope own) (his : ∀ j ∈ is, j ∈ own.map (·.2)) (hk : ∀ i, i ∉ own.map (·.2) → kd ks' i = kd ks i)
    (hg : ∀ (s : Shared) (H : Hp) (C : Addr) (cl : List (Str × Addr)) (fp : List Addr), EvG (X.blk s H scope (compEnvC scope cl C X.env) fp) ks' (.Tuple elts kk tpos) is asg)
    (ht : ∀ (s : Shared) (H : Hp) (C : Addr) (cl : List (Str × Addr)) (fp : List Addr), EvTs (X.blk s H scope (compEnvC scope cl C X.env) fp) ks' F ifs ft)
    (hx : ∀ (s : Shared) (H : Hp) (C : Addr) (cl : List (Str × Addr)) (fp : List Addr), EvE (X.blk s H scope (compEnvC scope cl C X.env) fp) ks' F kx fk)
    (he : ∀ (s : Shared) (H : Hp) (C : Addr) (cl : List (Str × Addr)) (fp : List Addr), EvE (X.blk s H scope (compEnvC scope cl C X.env) fp) ks' F vx fe) :
    EvM X ks F (.DictComp kx vx [⟨.Tuple elts kk tpos, .Call (.Attribute (.Name x p) "items" apos) [] [] cpos, ifs, 0⟩] scope pos) (cDc k (own.map (·.2)) (cItems i) asg ft fk fe) := by
  obtain ⟨t, pt, q⟩ := evx_dc k hu hc hN (evIx_items (F := F) (ks := ks) (elts := elts) (kk := kk) (tpos := tpos) (pos := p) hi hv hd hcd hline) ok his hk hg ht hx he (fun _ => rfl)
  refine ⟨_, peOr pt (pe_lock pt), fun σ H P ρ Q d fr er ev kq => ?_⟩
  obtain ⟨ds, e1, ev1⟩ := Option.bind_eq_some_iff.mp ev
  obtain ⟨kvs, e2, rfl⟩ := cItems_some e1
  obtain ⟨v, e3, r⟩ := er.2 i _ e2
  obtain ⟨a, ps, rfl, hh, hkv⟩ := r.toB.dic
  obtain ⟨kk, rd, _⟩ := hh
  rcases rd with rd | ⟨o, rd⟩
  · have hu : isDO (.dK kk) := trivial
    refine .inr ⟨a, .dK kk, rd, hu.mut, fun od => ?_⟩
    have lk := lck_on rd hu od
    refine q σ _ ⟨a, od, _, e3, upd_same⟩ P ρ _ d (fr.lck lk) (er.lck lk) ev fun w H' s ⟨r1, r2, r3⟩ => ?_
    have ha' := s a _ upd_same
    have lo := lck_off ha' hu
    refine ⟨ha', kq w _ (same_off rd s) ⟨Rep.lck lo d w r1, ?_, fun _ b eb => ?_⟩⟩
    · cases d <;> simp only [TopNew] at r2 ⊢ <;> exact fun b eb => lk.free b (r2 b eb)
    · have c := r3 b eb
      by_cases ba : b = a
      · subst ba; rw [upd_same]; trivial
      · rw [upd_ne ba]; exact c
  · exact .inl (q σ H ⟨a, o, _, e3, rd⟩ P ρ Q d fr er ev fun w H' s ⟨r1, r2, r3⟩ => kq w H' s ⟨r1, r2, fun _ => r3⟩)
end RE
/-! RE13n: d.update(e). -/
namespace RE
open PySem PySem.Spec PyProof.Rows L2

def tDUpd (td ty : TE) : TE := fun σ H Q => td σ H fun x H1 => ∃ a, x = .ref a ∧ IsD H1 a ∧ ty σ H1 fun y H2 => ∃ b kvs more, y = .ref b ∧ a ≠ b ∧ H2 a = some (.dK kvs) ∧ Rd H2 b (.dK more) ∧ kvs.length + more.length ≤ sizeLine ∧ Q .non (upd H2 a (.dK (mergeK kvs more)))
theorem pe_dupd {X : Cx} {o e : Expr} {apos cpos : Pos} {td ty : TE} (ho : PE X o td) (he : PE X e ty) (m : M1 X o "update" apos e cpos) : PE X (.Call (.Attribute o "update" apos) [e] [] cpos) (tDUpd td ty) := by
  refine ⟨fun pins s σ H Q I h => ?_⟩
  refine wpAny_Call_method m.base m.few m.line PySem.F.plainAttrs_dict PySem.F.slot_dict_update PySem.F.type_dict_update (thn (ho.run pins s σ H _ I h) fun u s1 ⟨x, H1, I1, rx, a, ex, d, q1⟩ => ?_)
  subst ex
  obtain rfl : u = Value.ref a := rx
  obtain ⟨t1, t2, _⟩ := isD_at I1 d
  refine ⟨t1, t2, ?_⟩
  rw [m.trees]
  refine Calls.callWith_builtin rfl (Calls.evalArgs_plain (Calls.spliced_cons (thn (he.run pins s1 σ H1 _ I1 q1) fun iv s2 ⟨y, H2, I2, ry, b, kvs, more, ey, ne, ea, eb, hl, q2⟩ => Calls.spliced_nil ?_)))
  subst ey
  obtain rfl : iv = Value.ref b := ry
  obtain ⟨z1, ya, va, ra, da⟩ := dk_of I2.hok ea
  obtain ⟨z2, yb, vb, rb, db⟩ := dk_rd I2.hok eb
  have lm := length_mergeK more kvs
  refine call_meetsIn PySem.F.slot_dict_update da.typeIs PySem.F.entry_dict_update (PySem.F.args_dict_update_2 _ _) (meets_dict_update (mixKind X.prog X.w) a b ne yb) ⟨va, vb, da, db, by rw [← ra.length, ← rb.length]; exact hl, fun h' d1 d2 hs => ⟨.non, upd H2 a (.dK (mergeK kvs more)), ?_, rfl, q2⟩⟩
  have he : ∃ q, h'.get? a = some q := let ⟨q, _, _, hq, _⟩ := d1; ⟨q, hq⟩
  exact d_write (t' := s2.toks) I2 (by rw [ea]; exact True.intro) hs he (dk_new (by omega) ya (KV.merge rb ra) d1)
def mergeD : List (D × D) → List (D × D) → Option (List (D × D))
  | acc, [] => some acc
  | acc, kv :: r => (dput false acc kv.1 kv.2).bind fun acc' => mergeD acc' r
def updD : D → D → Option D
  | .dic false kvs, .dic false more => if fits (kvs.length + more.length) then (mergeD kvs more).map (.dic false) else none
  | _, _ => none
theorem updD_some {x y d : D} (h : updD x y = some d) : ∃ kvs more kvs', x = .dic false kvs ∧ y = .dic false more ∧ kvs.length + more.length ≤ sizeLine ∧ mergeD kvs more = some kvs' ∧ d = .dic false kvs' := by
  unfold updD at h
  split at h
  · rename_i kvs more
    split at h
    · rename_i c
      obtain ⟨kvs', e, rfl⟩ := Option.map_eq_some_iff.mp h
      exact ⟨kvs, more, kvs', rfl, rfl, of_decide_eq_true c, e, rfl⟩
    · cases h
  · cases h
theorem kv_merge {P : Addr → Prop} {H : Hp} : ∀ {more : List (D × D)} {mm : List (Key × V)} {kvs : List (D × D)} {kk : List (Key × V)} {kvs' : List (D × D)}, RepKV P H more (mm.map fun q => (keyD q.1, q.2)) → RepKV P H kvs (kk.map fun q => (keyD q.1, q.2)) → mergeD kvs more = some kvs' → RepKV P H kvs' ((mergeK kk mm).map fun q => (keyD q.1, q.2))
  | [], mm, kvs, kk, kvs', h, g, e => by
    unfold RepKV at h
    rw [List.map_eq_nil_iff.mp h]
    cases e
    exact g
  | (k, d) :: more, mm, kvs, kk, kvs', h, g, e => by
    unfold RepKV at h
    obtain ⟨v, r, e1, h1, h2⟩ := h
    cases mm with
    | nil => cases e1
    | cons z mm =>
      rw [List.map_cons] at e1
      injection e1 with e2 e3
      subst e3
      injection e2 with e4 e5
      obtain ⟨zk, zv⟩ := z
      have e4 : keyD zk = k := e4
      have e5 : zv = v := e5
      subst e4 e5
      unfold mergeD at e
      obtain ⟨acc, e6, e7⟩ := Option.bind_eq_some_iff.mp e
      simp only [dput, keyA_keyD, Option.map_some] at e6
      cases e6
      exact kv_merge (kk := putK kk zk zv) h2 (kv_put keyA keyD keyA_keyD zk h1 g) e7
section
variable {X : Cx} {ks : Ks} {F : Fn} {pos : Pos}
def sUpd (i : Nat) (f : SE) : SS := fun F ρ => (f F ρ).bind fun y => (cV i F ρ).bind fun x => (updD x y).map fun d => .nx (ρ.set i (some d))
theorem m1_upd {x : Str} {e : Expr} {xp ap cp : Pos} (hn : noStar e = true) (hline : (ap.endLine == cp.line) = true) : M1 X (.Name x xp) "update" ap e cp where
  base := rfl
  few := by rw [starEach_cons (noStar_ne hn)]; rfl
  line := hline
  trees := by rw [starEach_cons (noStar_ne hn)]; rfl
theorem evS_upd {i : Nat} {x : Str} {e : Expr} {f : SE} {xp ap cp : Pos} (hi : X.N[i]? = some x) (hv : Vis X.env.scope x) (hd : (x == ("__debug__" : Str)) = false) (hcd : (x == ("__classdict__" : Str)) = false) (hk : kd ks i = .M) (hn : noStar e = true) (he : EvE X ks F e f)
    (hline : (ap.endLine == cp.line) = true) :
    EvS X ks F (.Expr (.Call (.Attribute (.Name x xp) "update" ap) [e] [] cp) pos) (sUpd i f) := by
  obtain ⟨t, p, q⟩ := he.ex
  refine ⟨tDrop (tDUpd (tVar i) t), ps_expr (pe_dupd (pe_var hi hv hd hcd) p (m1_upd hn hline)) rfl, fun Hb Pe P H σ ρ D r sr ev k => ?_⟩
  obtain ⟨y, e1, e2⟩ := Option.bind_eq_some_iff.mp ev
  obtain ⟨o, e3, u2⟩ := Option.bind_eq_some_iff.mp e2
  obtain ⟨d, u3, er⟩ := Option.map_eq_some_iff.mp u2
  obtain ⟨kvs, more, kvs', rfl, rfl, hl, hm, rfl⟩ := updD_some u3
  cases er
  have e4 := cV_some e3
  obtain ⟨v, e5, r5⟩ := sr.er.2 i _ e4
  rw [hk] at r5
  simp only [RepK, RepB] at r5
  obtain ⟨a, ps, rfl, ⟨kk, rd, rfl⟩, h2⟩ := r5
  have isd : IsD H a := .inl ⟨kk, rd⟩
  refine ⟨.ref a, e5, a, rfl, isd, q σ H P ρ _ _ sr.fre sr.er e1 fun w H1 s1 r1 => ?_⟩
  simp only [Rep] at r1
  obtain ⟨b, qs, rfl, pb, ⟨mm, rb, rfl⟩, g2⟩ := r1
  have sr1 := sr.same s1
  obtain ⟨a', q1, q2, q3, q4⟩ := sr1.own i _ (.inl hk) e4 rfl
  rw [e5] at q1; cases q1
  have ch := q4 hk
  have rd1 : H1 a = some (.dK kk) := by
    rcases rd with rd | ⟨o, rd⟩
    · exact s1 _ _ rd
    · rw [s1 _ _ rd] at ch; exact ch.elim
  have lk := h2.len
  have lm := g2.len
  rw [List.length_map] at lk lm
  refine ⟨b, kk, mm, rfl, fun z => q3 (z ▸ pb), rd1, rb, by omega, ?_⟩
  obtain ⟨sr2, fm⟩ := sr1.mut (d' := .dic false kvs') (o := .dK (mergeK kk mm)) hk e4 rfl e5 trivial (by
    simp only [RepB]
    exact ⟨a, _, rfl, ⟨_, .inl upd_same, rfl⟩, RepKV.chg ch q3 _ _ (kv_merge g2 (h2.same s1) hm)⟩) rfl
  exact k P σ _ sr2 ((Frm.of_same s1).trans fm)
/-- by another own dict -/
theorem evS_updV {i j : Nat} {x y : Str} {xp yp ap cp : Pos} (hi : X.N[i]? = some x) (hv : Vis X.env.scope x) (hd : (x == ("__debug__" : Str)) = false) (hcd : (x == ("__classdict__" : Str)) = false) (hk : kd ks i = .M)
    (hj : X.N[j]? = some y) (hv' : Vis X.env.scope y) (hd' : (y == ("__debug__" : Str)) = false) (hcd' : (y == ("__classdict__" : Str)) = false) (hk' : kd ks j = .M) (ij : i ≠ j) (hn : noStar (.Name y yp) = true) (hline : (ap.endLine == cp.line) = true) :
    EvS X ks F (.Expr (.Call (.Attribute (.Name x xp) "update" ap) [.Name y yp] [] cp) pos) (sUpd i (cV j)) := by
  refine ⟨tDrop (tDUpd (tVar i) (tVar j)), ps_expr (pe_dupd (pe_var hi hv hd hcd) (pe_var hj hv' hd' hcd') (m1_upd hn hline)) rfl, fun Hb Pe P H σ ρ D r sr ev k => ?_⟩
  obtain ⟨y, e1, e2⟩ := Option.bind_eq_some_iff.mp ev
  obtain ⟨o, e3, u2⟩ := Option.bind_eq_some_iff.mp e2
  obtain ⟨d, u3, er⟩ := Option.map_eq_some_iff.mp u2
  obtain ⟨kvs, more, kvs', rfl, rfl, hl, hm, rfl⟩ := updD_some u3
  cases er
  have e4 := cV_some e3
  have f4 := cV_some e1
  obtain ⟨v, e5, r5⟩ := sr.er.2 i _ e4
  rw [hk] at r5
  simp only [RepK, RepB] at r5
  obtain ⟨a, ps, rfl, ⟨kk, rd, rfl⟩, h2⟩ := r5
  obtain ⟨w, f5, t5⟩ := sr.er.2 j _ f4
  rw [hk'] at t5
  simp only [RepK, RepB] at t5
  obtain ⟨b, qs, rfl, ⟨mm, rb, rfl⟩, g2⟩ := t5
  have isd : IsD H a := .inl ⟨kk, rd⟩
  refine ⟨.ref a, e5, a, rfl, isd, .ref b, f5, ?_⟩
  obtain ⟨a', q1, q2, q3, q4⟩ := sr.own i _ (.inl hk) e4 rfl
  rw [e5] at q1; cases q1
  have ch := q4 hk
  have rd1 : H a = some (.dK kk) := by
    rcases rd with rd | ⟨o, rd⟩
    · exact rd
    · rw [rd] at ch; exact ch.elim
  have lk := h2.len
  have lm := g2.len
  rw [List.length_map] at lk lm
  have ne : a ≠ b := fun z => by
    subst z
    exact sr.dist i j _ _ a ij (.inl hk) (.inl hk') e4 f4 rfl rfl e5 f5
  refine ⟨b, kk, mm, rfl, ne, rd1, rb, by omega, ?_⟩
  obtain ⟨sr2, fm⟩ := sr.mut (d' := .dic false kvs') (o := .dK (mergeK kk mm)) hk e4 rfl e5 trivial (by
    simp only [RepB]
    exact ⟨a, _, rfl, ⟨_, .inl upd_same, rfl⟩, RepKV.chg ch q3 _ _ (kv_merge g2 h2 hm)⟩) rfl
  exact k P σ _ sr2 fm
end
end RE
/-! RE14: defs by levels, calls. -/
namespace RE
open PySem PySem.Spec PyProof.Rows L2

/-- a def's parameters' kinds; nw: what it gives is new where it is a list or dict -/
structure Sig where
  ks : List Kind
  nw : Bool
/-- the promise of a def by the function of trees -/
def spF (mg : Str → Option Value) (pk : Sig) (F : Fn) (f : Str) : Sp := fun vs H Q _ => ∃ (P : Addr → Prop) (ds : List D) (d : D), Fre P H ∧ RepA mg P H pk.ks ds vs ∧ ds.length = pk.ks.length ∧ F f ds = some d ∧ ∀ v H', Same H H' → Rep P H' d v → (pk.nw = true → TopNew H d v) → Q v H'
structure Callee (X : Cx) (F : Fn) (f : Str) (pk : Sig) : Prop where
  ex : ∃ (a : Addr) (fd : FuncData) (ps : List Str) (k : Nat), FnOk X.prog X.w X.K X.mg X.base CX0 k a fd ps (spF X.mg pk F f) ∧ Room k X.A ∧ X.mg f = some (.ref a) ∧ PySem.W.keepIn X.K (.ref a) = true ∧ Binds X.K fd ps []
section
variable {X : Cx} {ks : Ks} {F : Fn} {pos : Pos}
theorem Callee.pe {f : Str} {pk : Sig} {p : Pos} {es : List Expr} {t : TA} (c : Callee X F f pk) (hg : Gl X f) (hdb : (f == ("__debug__" : Str)) = false) (hs : es.all noStar = true) (ha : PA X es t) : PE X (.Call (.Name f p) es [] pos) (tCall (spF X.mg pk F f) [] E0 (if es = [] then tNil else t)) := by
  obtain ⟨a, fd, ps, k, fo, hr, hm, hk, hb⟩ := c.ex
  cases es with
  | nil => exact pe_call0 fo hr hg hm hk hb .nil pass0 hdb
  | cons e es =>
    rw [List.all_cons, Bool.and_eq_true] at hs
    exact pe_call fo hr hg hm hk hb .nil pass0 ha hdb (starEach_cons (noStar_ne hs.1)) (backTo_any hs.2)
def cFn (f : Str) (g : SA) : SE := fun F ρ => (g F ρ).bind fun ds => F f ds
theorem evE_call {f : Str} {pk : Sig} {p : Pos} {es : List Expr} {g : SA} (c : Callee X F f pk) (hg : Gl X f) (hdb : (f == ("__debug__" : Str)) = false) (hs : es.all noStar = true) (hl : es.length = pk.ks.length) (hlen : ∀ F ρ ds, g F ρ = some ds → ds.length = es.length) (ha : EvA X ks F pk.ks es g) :
    EvE X ks F (.Call (.Name f p) es [] pos) (cFn f g) := by
  obtain ⟨t, pt, q⟩ := ha.ex
  refine ⟨_, c.pe hg hdb hs pt, fun σ H P ρ Q d fr er ev k => ?_⟩
  obtain ⟨ds, e1, e2⟩ := Option.bind_eq_some_iff.mp ev
  have fin : ∀ vs H1, Same H H1 → RepA X.mg P H1 pk.ks ds vs → spF X.mg pk F f (vs ++ []) H1 Q E0 := fun vs H1 s1 r1 => by
    rw [List.append_nil]
    exact ⟨P, ds, d, fr.same s1, r1, by rw [hlen F ρ ds e1, hl], e2, fun v H' s r _ => k v H' (s1.trans s) r⟩
  show (if es = [] then tNil else t) σ H (fun vs H1 => spF X.mg pk F f (vs ++ []) H1 Q E0)
  split
  · rename_i he
    subst he
    have hd : ds = [] := List.length_eq_zero_iff.mp (hlen F ρ ds e1)
    subst hd
    exact fin [] H (Same.refl H) rfl
  · exact q σ H P ρ _ ds fr er e1 fun vs H1 s1 r1 => fin vs H1 s1 r1
/-- no list, no dict within -/
def imm : D → Bool
  | .lst _ => false
  | .dic _ _ => false
  | .tup xs => immL xs
  | _ => true
where immL : List D → Bool
  | [] => true
  | d :: ds => imm d && immL ds
mutual
theorem Rep.imm {P P' : Addr → Prop} {H : Hp} : ∀ (d : D) (v : V), RE.imm d = true → Rep P H d v → Rep P' H d v
  | .non, v, _, h => by simpa only [Rep] using h
  | .bl b, v, _, h => by simpa only [Rep] using h
  | .int i, v, _, h => by simpa only [Rep] using h
  | .str x, v, _, h => by simpa only [Rep] using h
  | .tup ds, v, e, h => by
    simp only [Rep] at h ⊢
    simp only [RE.imm] at e
    obtain ⟨a, vs, e1, h1, h2⟩ := h
    exact ⟨a, vs, e1, h1, RepL.imm ds vs e h2⟩
  | .lst ds, v, e, h => by simp [RE.imm] at e
  | .dic t kvs, v, e, h => by simp [RE.imm] at e
  | .scr ns, v, _, h => by simpa only [Rep] using h
  | .fn f, v, _, h => by simpa only [Rep] using h
theorem RepL.imm {P P' : Addr → Prop} {H : Hp} : ∀ (ds : List D) (vs : List V), RE.imm.immL ds = true → RepL P H ds vs → RepL P' H ds vs
  | [], vs, _, h => by simpa only [RepL] using h
  | d :: ds, vs, e, h => by
    simp only [RE.imm.immL, Bool.and_eq_true] at e
    simp only [RepL] at h ⊢
    obtain ⟨v, r, e1, h1, h2⟩ := h
    exact ⟨v, r, e1, Rep.imm d v e.1 h1, RepL.imm ds r e.2 h2⟩
end
theorem RepB.imm {mg : Str → Option Value} {P P' : Addr → Prop} {H : Hp} {d : D} {v : V} (e : RE.imm d = true) (h : RepB mg P H d v) : RepB mg P' H d v := by
  cases d <;> simp only [RepB] at h ⊢ <;> first | exact h | exact Rep.imm _ _ e h | (simp [RE.imm] at e; done)
theorem RepA.imm {mg : Str → Option Value} {P P' : Addr → Prop} {H : Hp} : ∀ {pk : List Kind} {ds : List D} {vs : List V}, RE.imm.immL ds = true → RepA mg P H pk ds vs → RepA mg P' H pk ds vs
  | _, [], _, _, h => h
  | pk, d :: ds, vs, e, h => by
    simp only [RE.imm.immL, Bool.and_eq_true] at e
    obtain ⟨v, r, e1, h1, h2⟩ := h
    refine ⟨v, r, e1, ?_, RepA.imm e.2 h2⟩
    generalize pk.headD .F = z at h1 ⊢
    cases z with
    | F => exact Rep.imm _ _ e.1 h1
    | M => exact RepB.imm e.1 h1
    | L => exact RepB.imm e.1 h1
    | B => exact RepB.imm e.1 h1
/-- .. nothing given that could be changed: what it gives is new -/
def cFnN (f : Str) (g : SA) : SE := fun F ρ => (g F ρ).bind fun ds => if imm.immL ds = true then F f ds else none
theorem evN_call {f : Str} {pk : Sig} {p : Pos} {es : List Expr} {g : SA} (c : Callee X F f pk) (hg : Gl X f) (hdb : (f == ("__debug__" : Str)) = false) (hs : es.all noStar = true) (hl : es.length = pk.ks.length) (hlen : ∀ F ρ ds, g F ρ = some ds → ds.length = es.length) (ha : EvA X ks F pk.ks es g) :
    EvN X ks F (.Call (.Name f p) es [] pos) (cFnN f g) := by
  obtain ⟨t, pt, q⟩ := ha.ex
  refine ⟨_, c.pe hg hdb hs pt, fun σ H P ρ Q d fr er ev k => ?_⟩
  obtain ⟨ds, e1, e2⟩ := Option.bind_eq_some_iff.mp ev
  split at e2
  · rename_i hi
    have fin : ∀ vs H1, Same H H1 → RepA X.mg P H1 pk.ks ds vs → spF X.mg pk F f (vs ++ []) H1 Q E0 := fun vs H1 s1 r1 => by
      rw [List.append_nil]
      refine ⟨fun a => H1 a = none, ds, d, fun a h => h, RepA.imm hi r1, by rw [hlen F ρ ds e1, hl], e2, fun v H' s r _ => k v H' (s1.trans s) ⟨r.weak fun a h => fr.same s1 a h, ?_⟩⟩
      cases d <;> simp only [TopNew, Rep] at r ⊢
      · intro a ea
        obtain ⟨b, vs, eb, h, _⟩ := r
        rw [ea] at eb; cases eb
        exact s1.free h
      · intro a ea
        obtain ⟨b, vs, eb, h, _⟩ := r
        rw [ea] at eb; cases eb
        exact s1.free h
    show (if es = [] then tNil else t) σ H (fun vs H1 => spF X.mg pk F f (vs ++ []) H1 Q E0)
    split
    · rename_i he
      subst he
      have hd : ds = [] := List.length_eq_zero_iff.mp (hlen F ρ ds e1)
      subst hd
      exact fin [] H (Same.refl H) rfl
    · exact q σ H P ρ _ ds fr er e1 fun vs H1 s1 r1 => fin vs H1 s1 r1
  · cases e2
/-- .. a def that gives new things -/
theorem evN_callNew {f : Str} {pk : Sig} {p : Pos} {es : List Expr} {g : SA} (hn : pk.nw = true) (c : Callee X F f pk) (hg : Gl X f) (hdb : (f == ("__debug__" : Str)) = false) (hs : es.all noStar = true) (hl : es.length = pk.ks.length) (hlen : ∀ F ρ ds, g F ρ = some ds → ds.length = es.length) (ha : EvA X ks F pk.ks es g) :
    EvN X ks F (.Call (.Name f p) es [] pos) (cFn f g) := by
  obtain ⟨t, pt, q⟩ := ha.ex
  refine ⟨_, c.pe hg hdb hs pt, fun σ H P ρ Q d fr er ev k => ?_⟩
  obtain ⟨ds, e1, e2⟩ := Option.bind_eq_some_iff.mp ev
  have fin : ∀ vs H1, Same H H1 → RepA X.mg P H1 pk.ks ds vs → spF X.mg pk F f (vs ++ []) H1 Q E0 := fun vs H1 s1 r1 => by
    rw [List.append_nil]
    exact ⟨P, ds, d, fr.same s1, r1, by rw [hlen F ρ ds e1, hl], e2, fun v H' s r n => k v H' (s1.trans s) ⟨r, (n hn).back s1⟩⟩
  show (if es = [] then tNil else t) σ H (fun vs H1 => spF X.mg pk F f (vs ++ []) H1 Q E0)
  split
  · rename_i he
    subst he
    have hd : ds = [] := List.length_eq_zero_iff.mp (hlen F ρ ds e1)
    subst hd
    exact fin [] H (Same.refl H) rfl
  · exact q σ H P ρ _ ds fr er e1 fun vs H1 s1 r1 => fin vs H1 s1 r1
end

/-! ### defs -/
/-- what a def is, by trees: parameters' kinds, all slots' kinds, the number of slots, its body -/
structure DefS where
  np : Nat
  nn : Nat
  ks : Ks
  nw : Bool
  body : SS
def runD (d : DefS) (F : Fn) (ds : List D) : Option D := if ds.length = d.np then (d.body F (ds.map some ++ List.replicate (d.nn - ds.length) none)).bind fun r => match r with | .rt b v => if (d.nw && !b) = true then none else some v | .nx _ => some .non else none
/-- by levels -/
def lvl (T : Str → Option DefS) : Nat → Fn
  | 0 => fun _ _ => none
  | n + 1 => fun f ds => (T f).bind fun d => runD d (lvl T n) ds
/-- parameters are shared, or only looked at -/
def okPar (ks : Ks) (np : Nat) : Bool := (ks.take np).all fun k => decide (k = .F) || decide (k = .B)
theorem ER.start {mg : Str → Option Value} {P : Addr → Prop} {H : Hp} : ∀ {ks : Ks} {ds : List D} {vs : List V} {m : Nat}, RepA mg P H ks ds vs → ER mg P ks H (vs.map some ++ List.replicate m none) (ds.map some ++ List.replicate m none)
  | ks, [], vs, m, h => by
    rw [show vs = [] from h]
    refine ⟨by simp, fun i d e => ?_⟩
    rw [List.map_nil, List.nil_append, List.getElem?_replicate] at e
    split at e <;> cases e
  | ks, d :: ds, vs, m, h => by
    obtain ⟨v, r, rfl, h1, h2⟩ := h
    have ih := ER.start (m := m) h2
    refine ⟨by simpa using ih.1, fun i e q => ?_⟩
    cases i with
    | zero =>
      cases q
      refine ⟨v, rfl, ?_⟩
      cases ks with
      | nil => exact h1
      | cons k ks => exact h1
    | succ i =>
      obtain ⟨w, e1, r1⟩ := ih.2 i e (by simpa using q)
      refine ⟨w, by simpa using e1, ?_⟩
      cases ks with
      | nil => exact r1
      | cons k ks => exact r1
theorem RepA.kinds {mg : Str → Option Value} {P : Addr → Prop} {H : Hp} : ∀ {ks : Ks} {n : Nat} {ds : List D} {vs : List V}, ds.length = n → RepA mg P H (ks.take n) ds vs → RepA mg P H ks ds vs
  | _, _, [], _, _, h => h
  | ks, n, d :: ds, vs, hl, h => by
    obtain ⟨v, r, e, h1, h2⟩ := h
    subst hl
    refine ⟨v, r, e, ?_, ?_⟩
    · cases ks with
      | nil => exact h1
      | cons k ks => exact h1
    · cases ks with
      | nil => exact RepA.kinds (n := ds.length) rfl (by simpa using h2)
      | cons k ks => exact RepA.kinds (n := ds.length) rfl (by simpa using h2)
/-- at a def's entry -/
theorem SR.start {mg : Str → Option Value} {P : Addr → Prop} {H : Hp} {ks : Ks} {ds : List D} {vs : List V} {m : Nat} (fr : Fre P H) (hp : okPar ks ds.length = true) (h : RepA mg P H ks ds vs) : SR mg H P P ks H (vs.map some ++ List.replicate m none) (ds.map some ++ List.replicate m none) := by
  have kinds : ∀ i d, (ds.map some ++ List.replicate m none)[i]? = some (some d) → kd ks i = .F ∨ kd ks i = .B := fun i d e => by
    have hi : i < ds.length := by
      by_cases c : i < ds.length
      · exact c
      · rw [List.getElem?_append_right (by simpa using c), List.getElem?_replicate] at e
        split at e <;> cases e
    unfold kd
    rw [List.getD_eq_getElem?_getD]
    cases q : ks[i]? with
    | none => exact .inl rfl
    | some k =>
      unfold okPar at hp
      rw [List.all_eq_true] at hp
      have := hp k (by
        rw [List.mem_iff_getElem?]
        exact ⟨i, by rw [List.getElem?_take_of_lt hi]; exact q⟩)
      simpa using this
  have er := ER.start (m := m) h
  refine ⟨fr, fun _ p => p, fr, Same.refl H, er, fun i d hk e _ => ?_, fun i j d e a _ hi _ e1 => ?_, fun i d a hk e m s => ?_, fun i g hk e => ?_⟩
  · rcases kinds i d e with q | q <;> rw [q] at hk <;> rcases hk with z | z <;> cases z
  · rcases kinds i d e1 with q | q <;> rw [q] at hi <;> rcases hi with z | z <;> cases z
  · obtain ⟨v, e1, r⟩ := er.2 i d e
    rw [s] at e1; cases e1
    have rb := r.toB
    cases d <;> simp only [isMut] at m <;> first | (cases m; done) | skip
    · obtain ⟨b, vs, e, h1, _⟩ := rb.lst; cases e; rw [h1]; simp
    · obtain ⟨b, ps, e, h1, _⟩ := rb.dic; cases e; exact h1.some
  · rcases kinds i _ e with q | q <;> rw [q] at hk <;> rcases hk with z | z <;> cases z
theorem fnOk_none {P : Program} {w : World} {K : PySem.W.Frag} {mg : Str → Option Value} {base : Heap} {k : Nat} {a : Addr} {fd : FuncData} {ps : List Str} {pk : Sig} {f : Str} {F : Fn} (h : ∀ ds, F f ds = none) : FnOk P w K mg base CX0 k a fd ps (spF mg pk F f) :=
  ⟨(fun vs H Q E ⟨_, ds, d, _, _, _, e, _⟩ => by rw [h ds] at e; cases e), fun _ _ _ _ _ _ _ _ _ _ _ _ _ ⟨_, ds, d, _, _, _, e, _⟩ => by rw [h ds] at e; cases e⟩
/-- a def's promise at the next level -/
theorem fnOk_succ {P : Program} {w : World} {K : PySem.W.Frag} {mg : Str → Option Value} {base : Heap} {k n : Nat} {x : Str} {f : Addr} {fd : FuncData} {N ps : List Str} {T : Str → Option DefS} {d : DefS} (hd : T x = some d) {params : Arguments} {stb : List Stmt} {sc : Scope} (F : FunD K x x params stb sc [] [] f fd) (S : FnScope N ps sc) (hnp : d.np = ps.length) (hnn : d.nn = N.length) (hpar : okPar d.ks d.np = true) (hks : (d.ks.take d.np).length = d.np)
    (hb : ∀ (cdv : Value) (A : Around) (outer : List PySem.Env) (s : Shared) (H : Hp) (E : XK), Room k (A.deeper (envOfC x sc s.heap.objs.size f cdv)) → EvSs (cxOf CX0 P w K mg base N x sc f cdv A outer s H E).nox d.ks (lvl T n) stb d.body) :
    FnOk P w K mg base CX0 (k + 1) f fd ps (spF mg ⟨d.ks.take d.np, d.nw⟩ (lvl T (n + 1)) x) := by
  refine F.ok S (fun vs H Q E ⟨_, ds, dd, _, r, hl, _, _⟩ => by rw [r.length, hl, hks, hnp]) fun cdv A outer s H vs Q E hr ⟨P0, ds, dd, fr, r, hl, ev, kk⟩ => ?_
  obtain ⟨t, pt, q⟩ := (hb cdv A outer s H E hr).ex
  have hl2 : ds.length = d.np := by rw [hl, hks]
  simp only [lvl] at ev
  rw [hd] at ev
  simp only [Option.bind_some, runD] at ev
  rw [if_pos hl2] at ev
  obtain ⟨res, e1, e2⟩ := Option.bind_eq_some_iff.mp ev
  refine ⟨t, PSs.nox pt, ?_⟩
  have r' : RepA mg P0 H d.ks ds vs := RepA.kinds hl2 r
  have sr : SR mg H P0 P0 d.ks H (L2.start N vs) (ds.map some ++ List.replicate (d.nn - ds.length) none) := by
    unfold L2.start
    rw [r.length, ← hnn]
    exact SR.start fr (by rw [hl2]; exact hpar) r'
  refine q H P0 P0 H _ _ _ res sr e1 ?_
  cases res with
  | nx ρ' =>
    cases e2
    exact fun P' σ' H' sr' fm => kk .non H' sr'.keep (by simp only [Rep]) fun _ => trivial
  | rt b v =>
    simp only at e2
    split at e2
    · cases e2
    · rename_i hb
      cases e2
      refine fun v H' s r n => kk v H' s r fun hn => n ?_
      have hn : d.nw = true := hn
      rw [hn] at hb
      simpa using hb
end RE
/-! RE14b: a call of a parameter that holds a def. -/
namespace RE
open PySem PySem.Spec PyProof.Rows L2

def tCallP (mg : Str → Option Value) (pk : Sig) (F : Fn) (gs : List Str) (i : Nat) (t : TA) : TE := fun σ H Q => ∃ f a, f ∈ gs ∧ mg f = some (.ref a) ∧ σ[i]? = some (some (.ref a)) ∧ t σ H fun vs H1 => spF mg pk F f (vs ++ []) H1 Q E0
theorem pe_callP {X : Cx} {F : Fn} {pk : Sig} {gs : List Str} {i : Nat} {x : Str} {p pos : Pos} {e : Expr} {es : List Expr} {t : TA} (hc : ∀ f ∈ gs, Callee X F f pk) (hN : X.N[i]? = some x) (hv : Vis X.env.scope x) (hdb : (x == ("__debug__" : Str)) = false) (hcd : (x == ("__classdict__" : Str)) = false)
    (hs : (e :: es).all noStar = true) (ha : PA X (e :: es) t) : PE X (.Call (.Name x p) (e :: es) [] pos) (tCallP X.mg pk F gs i t) := by
  refine ⟨fun pins s σ H Q I h => ?_⟩
  obtain ⟨f, a, hf, hm, hσ, ht⟩ := h
  obtain ⟨a', fd, ps, k, fo, hr, hm', hk, hb⟩ := (hc f hf).ex
  rw [hm] at hm'
  cases hm'
  rw [List.all_cons, Bool.and_eq_true] at hs
  exact (pe_callL (i := i) fo hr hN hv hk hb .nil pass0 ha hdb hcd (starEach_cons (noStar_ne hs.1)) (backTo_any hs.2)).run pins s σ H Q I ⟨hσ, ht⟩
/-- the i-th slot holds one of these defs: it is called -/
def cFnP (i : Nat) (gs : List Str) (g : SA) : SE := fun F ρ => (cV i F ρ).bind fun d => match d with
  | .fn f => if f ∈ gs then (g F ρ).bind fun ds => F f ds else none
  | _ => none
theorem evE_callP {X : Cx} {ks : Ks} {F : Fn} {pos : Pos} {pk : Sig} {gs : List Str} {i : Nat} {x : Str} {p : Pos} {es : List Expr} {g : SA} (hc : ∀ f ∈ gs, Callee X F f pk) (hN : X.N[i]? = some x) (hv : Vis X.env.scope x) (hdb : (x == ("__debug__" : Str)) = false) (hcd : (x == ("__classdict__" : Str)) = false)
    (hne : es ≠ []) (hs : es.all noStar = true) (hl : es.length = pk.ks.length) (hlen : ∀ F ρ ds, g F ρ = some ds → ds.length = es.length) (ha : EvA X ks F pk.ks es g) :
    EvE X ks F (.Call (.Name x p) es [] pos) (cFnP i gs g) := by
  obtain ⟨t, pt, q⟩ := ha.ex
  cases es with
  | nil => exact absurd rfl hne
  | cons e es =>
    refine ⟨_, pe_callP (F := F) (pk := pk) (gs := gs) hc hN hv hdb hcd hs pt, fun σ H P ρ Q d fr er ev k => ?_⟩
    obtain ⟨y, e1, e2⟩ := Option.bind_eq_some_iff.mp ev
    split at e2
    · rename_i f
      split at e2
      · rename_i hf
        obtain ⟨ds, e3, e4⟩ := Option.bind_eq_some_iff.mp e2
        obtain ⟨v, e5, r⟩ := er.2 i _ (cV_some e1)
        have rb := r.toB
        simp only [RepB] at rb
        obtain ⟨a, rfl, hm⟩ := rb
        refine ⟨f, a, hf, hm, e5, q σ H P ρ _ ds fr er e3 fun vs H1 s1 r1 => ?_⟩
        rw [List.append_nil]
        exact ⟨P, ds, d, fr.same s1, r1, by rw [hlen F ρ ds e3, hl], e4, fun v H' s r _ => k v H' (s1.trans s) r⟩
      · cases e2
    · cases e2
end RE
/-! RE15: what is known of a context; operators and built-ins by name. -/
namespace RE
open PySem PySem.Spec PyProof.Rows L2

/-- the text's defs (their parameters' kinds), constants, and the built-ins' names it does not shadow -/
structure Tab where
  fns : List (Str × Sig)
  glb : List (Str × D)
  blt : List Str
  /-- dicts whose keys are tuples, dicts that are walked: by a def's slots and the name -/
  dT : List (List Str × Str) := []
  dN : List (List Str × Str) := []
def Tab.tk (T : Tab) (N : List Str) (x : Str) : Bool := T.dT.any fun p => decide (p.1 = N) && decide (p.2 = x)
def Tab.dn (T : Tab) (N : List Str) (x : Str) : Bool := T.dN.any fun p => decide (p.1 = N) && decide (p.2 = x)
/-- a block: its slots, its scope; all: a def's own block; raw: a comprehension's names as written -/
structure SC where
  N : List Str
  scope : Scope
  all : Bool
  raw : List (Str × NameKind)
  nw : Bool
def SC.sto (c : SC) (x : Str) : Bool := c.all || decide (c.raw.lookup x = some .local) || decide (c.raw.lookup x = some .cell)
structure XOk (T : Tab) (c : SC) (X : Cx) (F : Fn) : Prop where
  hN : X.N = c.N
  nd : c.N.Nodup
  sc : X.env.scope = c.scope
  calm : X.calm = true
  own : PassesOwn (model X.prog X.w) X.A X.env X.xe
  un : X.A.units + 128 < cLine
  kind : c.scope.kind = .function
  sto : ∀ x, c.sto x = true → X.fn x = true ∨ X.env.scope.names.lookup x = some .local
  fns : ∀ f pk, T.fns.lookup f = some pk → Callee X F f pk
  glb : ∀ x d, T.glb.lookup x = some d → ∃ v u, constV d = some v ∧ X.mg x = some u ∧ RelV v u
  blt : ∀ x, x ∈ T.blt → X.mg x = none
/-- a comprehension's scope within a block's -/
def relS (scope sc : Scope) : Scope := { scope with names := scope.names.map fun (n, k) => if (k == .free && sc.kind == .function && sc.names.lookup n == some .cell) then (n, .cell) else (n, k) }
def SC.blk (c : SC) (scope : Scope) : SC := ⟨c.N, relS scope c.scope, false, scope.names, c.nw⟩
theorem XOk.blk {T : Tab} {c : SC} {X : Cx} {F : Fn} (h : XOk T c X F) {scope : Scope} (hk : scope.kind = .function) (s : Shared) (H : Hp) (C : Addr) (cl : List (Str × Addr)) (fp : List Addr) : XOk T (c.blk scope) (X.blk s H scope (compEnvC scope cl C X.env) fp) F where
  hN := h.hN
  nd := h.nd
  sc := by
    show relabel scope X.env = relS scope c.scope
    rw [← h.sc]
    rfl
  calm := h.calm
  own := PassesOwn.never
  un := h.un
  kind := hk
  sto := fun x hx => by
    unfold SC.sto SC.blk at hx
    simp only [Bool.false_or, Bool.or_eq_true, decide_eq_true_eq] at hx
    rcases hx with q | q
    · right
      show (relabel scope X.env).names.lookup x = some .local
      exact lookup_relabel_local q
    · left
      show (scope.names.lookup x == some .cell) = true
      rw [q]; rfl
  fns := fun f pk e => by
    obtain ⟨a, fd, ps, k, h1, h2, h3, h4, h5⟩ := (h.fns f pk e).ex
    exact ⟨a, fd, ps, k, h1, h2, h3, h4, h5⟩
  glb := h.glb
  blt := h.blt

/-! ### names -/
def SC.vis (c : SC) (x : Str) : Bool := decide (c.scope.names.lookup x = some .local) || decide (c.scope.names.lookup x = some .cell) || decide (c.scope.names.lookup x = some .free)
def SC.loc (c : SC) (x : Str) : Bool := decide (c.scope.names.lookup x = some .local) || decide (c.scope.names.lookup x = some .cell)
def SC.gl (c : SC) (x : Str) : Bool := decide (c.scope.names.lookup x = some .globalImplicit)
def SC.ix (c : SC) (x : Str) : Option Nat := c.N.findIdx? fun y => decide (y = x)
def plainName (x : Str) : Bool := !(x == ("__debug__" : Str)) && !(x == ("__classdict__" : Str)) && !decide (x = "__name__")
section
variable {T : Tab} {c : SC} {X : Cx} {F : Fn} {x : Str}
theorem XOk.vis (h : XOk T c X F) (e : c.vis x = true) : Vis X.env.scope x := by
  unfold SC.vis at e
  rw [h.sc]
  simp only [Bool.or_eq_true, decide_eq_true_eq] at e
  rcases e with (e | e) | e
  · exact .inl e
  · exact .inr (.inl e)
  · exact .inr (.inr e)
theorem XOk.loc (h : XOk T c X F) (e : c.loc x = true) : Loc X.env.scope x := by
  unfold SC.loc at e
  rw [h.sc]
  unfold L2.Loc
  simpa using e
theorem XOk.gl (h : XOk T c X F) (e : c.gl x = true) : Gl X x := by
  unfold SC.gl at e
  show X.env.scope.names.lookup x = _
  rw [h.sc]
  simpa using e
theorem XOk.ix (h : XOk T c X F) {i : Nat} (e : c.ix x = some i) : X.N[i]? = some x := by
  rw [h.hN]
  unfold SC.ix at e
  obtain ⟨hi, p, _⟩ := List.findIdx?_eq_some_iff_getElem.mp e
  rw [List.getElem?_eq_getElem hi]
  exact congrArg some (of_decide_eq_true p)
theorem XOk.nodup (h : XOk T c X F) : X.N.Nodup := by rw [h.hN]; exact h.nd
theorem plain_d (h : plainName x = true) : (x == ("__debug__" : Str)) = false := by
  unfold plainName at h
  simp only [Bool.and_eq_true, Bool.not_eq_true'] at h
  exact h.1.1
theorem plain_c (h : plainName x = true) : (x == ("__classdict__" : Str)) = false := by
  unfold plainName at h
  simp only [Bool.and_eq_true, Bool.not_eq_true'] at h
  exact h.1.2
theorem plain_n (h : plainName x = true) : x ≠ "__name__" := by
  unfold plainName at h
  simp only [Bool.and_eq_true, Bool.not_eq_true', decide_eq_false_iff_not] at h
  exact h.2
end

/-! ### operators -/
abbrev OpF (b : Value → Value → Sem Value) := { o : D → D → Option D // ∀ X : Cx, X.A.units + 128 < cLine → ∃ r, OpR X b r ∧ R2Ok X.mg r o }
def binF : (op : Operator) → Option (OpF (binaryOp op))
  | .Add => some ⟨addD, fun X h => ⟨_, op_addD, addD_ok⟩⟩
  | .Sub => some ⟨subD, fun X h => ⟨_, op_sub, subD_ok⟩⟩
  | .Mult => some ⟨mulD, fun X h => ⟨_, op_mulD, mulD_ok⟩⟩
  | .Mod => some ⟨modD, fun X h => ⟨_, op_modN, modD_ok⟩⟩
  | .FloorDiv => some ⟨fdivD, fun X h => ⟨_, op_fdivA, fdivD_ok⟩⟩
  | .Pow => some ⟨powD, fun X h => ⟨_, op_pow, powD_ok⟩⟩
  | _ => none
def cmpF : (op : CmpOp) → Option (OpF (compareOp op))
  | .Eq => some ⟨eqD, fun X h => ⟨_, op_eqP (by omega), eqD_ok⟩⟩
  | .NotEq => some ⟨neD, fun X h => ⟨_, (op_neP (by omega)).or (op_neE (by omega)), neD_ok⟩⟩
  | .Lt => some ⟨ltD, fun X h => ⟨_, op_ltP (by omega), ltD_ok⟩⟩
  | .LtE => some ⟨leD, fun X h => ⟨_, op_leP (by omega), leD_ok⟩⟩
  | .Gt => some ⟨gtD, fun X h => ⟨_, op_gtP (by omega), gtD_ok⟩⟩
  | .GtE => some ⟨geD, fun X h => ⟨_, op_geP (by omega), geD_ok⟩⟩
  | .Is => some ⟨isD, fun X h => ⟨_, op_isD, isD_ok⟩⟩
  | .IsNot => some ⟨isntD, fun X h => ⟨_, op_isntD, isntD_ok⟩⟩
  | _ => none
/-- a built-in called by its name -/
structure BF where
  x : Str
  n : Nat
  val : Value
  op : List D → Option D
  ok : ∀ X : Cx, X.calm = true → X.A.units + 128 < cLine → (∃ id r, val = .builtin id ∧ CallR X (.builtin id) r ∧ RcOk X.mg r op) ∨ ∃ U r, val = .type U ∧ CallR X (.type U) r ∧ RcOk X.mg r op
  hv : bootBuiltins x = some val
noncomputable def bfs : List BF := [
  ⟨"len", 1, .builtin "len", op1 lenD, fun X _ hu => .inl ⟨_, _, rfl, call_lenD2, lenD_ok⟩, by decide +kernel⟩,
  ⟨"abs", 1, .builtin "abs", op1 absD, fun X _ hu => .inl ⟨_, _, rfl, call_abs, absD_ok⟩, by decide +kernel⟩,
  ⟨"max", 2, .builtin "max", op2 max2D, fun X h hu => .inl ⟨_, _, rfl, call_max2 h, max2D_ok⟩, by decide +kernel⟩,
  ⟨"min", 2, .builtin "min", op2 min2D, fun X h hu => .inl ⟨_, _, rfl, call_min2 h, min2D_ok⟩, by decide +kernel⟩,
  ⟨"max", 1, .builtin "max", op1 max1D, fun X h hu => .inl ⟨_, _, rfl, cr_max h, max1D_ok⟩, by decide +kernel⟩,
  ⟨"min", 1, .builtin "min", op1 min1D, fun X h hu => .inl ⟨_, _, rfl, cr_min h, min1D_ok⟩, by decide +kernel⟩,
  ⟨"sorted", 1, .builtin "sorted", op1 sortedD, fun X h hu => .inl ⟨_, _, rfl, cr_sortDD h hu, sortedD_ok⟩, by decide +kernel⟩,
  ⟨"any", 1, .builtin "any", op1 anyD, fun X h hu => .inl ⟨_, _, rfl, cr_any h, anyD_ok⟩, by decide +kernel⟩,
  ⟨"all", 1, .builtin "all", op1 allD, fun X h hu => .inl ⟨_, _, rfl, cr_all h, allD_ok⟩, by decide +kernel⟩,
  ⟨"sum", 1, .builtin "sum", op1 sumD, fun X h hu => .inl ⟨_, _, rfl, cr_sum h, sumD_ok⟩, by decide +kernel⟩,
  ⟨"int", 1, .type "int", op1 int1D, fun X h hu => .inr ⟨_, _, rfl, call_int1, int1D_ok⟩, by decide +kernel⟩,
  ⟨"bool", 1, .type "bool", op1 bool1D, fun X h hu => .inr ⟨_, _, rfl, call_bool1, bool1D_ok⟩, by decide +kernel⟩,
  ⟨"list", 1, .type "list", op1 listDD, fun X h hu => .inr ⟨_, _, rfl, cr_list h, listDD_ok⟩, by decide +kernel⟩,
  ⟨"dict", 1, .type "dict", op1 dictD, fun X h hu => .inr ⟨_, _, rfl, cr_dict h hu, dictD_ok⟩, by decide +kernel⟩,
  ⟨"tuple", 1, .type "tuple", op1 tupleD, fun X h hu => .inr ⟨_, _, rfl, call_tuple_of, tupleD_ok⟩, by decide +kernel⟩]
theorem evN_bf {T : Tab} {c : SC} {X : Cx} {F : Fn} {ks : Ks} (ok : XOk T c X F) (b : BF) {p pos : Pos} {e : Expr} {es : List Expr} {g : SA} (hg : c.gl b.x = true) (hb : b.x ∈ T.blt) (hp : plainName b.x = true) (hs : (e :: es).all noStar = true) (ha : EvA X ks F [.B, .B, .B, .B] (e :: es) g) :
    EvN X ks F (.Call (.Name b.x p) (e :: es) [] pos) (cCall b.op g) := by
  have hv := b.hv
  rcases b.ok X ok.calm ok.un with ⟨id, r, e1, h1, h2⟩ | ⟨U, r, e1, h1, h2⟩
  · rw [e1] at hv
    exact evN_callB h1 h2 (ok.gl hg) (ok.blt _ hb) hv (plain_n hp) (plain_d hp) hs ha
  · rw [e1] at hv
    exact evN_callT h1 h2 (ok.gl hg) (ok.blt _ hb) hv (plain_n hp) (plain_d hp) hs ha
end RE
/-! RE16: from the text to functions of trees, with the proof that they tell what is computed: expressions. -/
namespace RE
open PySem PySem.Spec PyProof.Rows L2

/-! ### own slots that are not changed for now -/
def demote (is : List Nat) : Nat → Ks → Ks
  | _, [] => []
  | i, k :: ks => (if (decide (k = .M) && is.contains i) = true then .L else k) :: demote is (i + 1) ks
theorem dem_demote (is : List Nat) : ∀ (ks : Ks) (i : Nat), Dem ks (demote is i ks)
  | [], i, j => .inl rfl
  | k :: ks, i, j => by
    cases j with
    | zero =>
      show kd ((if (decide (k = .M) && is.contains i) = true then Kind.L else k) :: _) 0 = _ ∨ _
      by_cases h : (decide (k = .M) && is.contains i) = true
      · right
        have hm : k = .M := by
          rw [Bool.and_eq_true] at h
          exact of_decide_eq_true h.1
        subst hm
        exact ⟨rfl, by unfold demote; rw [if_pos h]; rfl⟩
      · left
        unfold demote; rw [if_neg h]; rfl
    | succ j => exact dem_demote is ks (i + 1) j
def setF (is : List Nat) : Nat → Ks → Ks
  | _, [] => []
  | i, k :: ks => (if is.contains i = true then .F else k) :: setF is (i + 1) ks
theorem kd_setF (is : List Nat) : ∀ (ks : Ks) (i j : Nat), i + j ∉ is → kd (setF is i ks) j = kd ks j
  | [], i, j, _ => rfl
  | k :: ks, i, j, h => by
    cases j with
    | zero =>
      unfold setF
      have : is.contains i = false := by simpa using h
      rw [this]; rfl
    | succ j =>
      have := kd_setF is ks (i + 1) j (by rw [Nat.add_assoc, Nat.add_comm 1 j]; exact h)
      exact this
section
variable {X : Cx} {ks ks' : Ks} {F : Fn} {e : Expr} {f : SE}
theorem ER.undem {mg : Str → Option Value} {P : Addr → Prop} {H : Hp} {σ : L2.St} {ρ : RE.Env} (dm : Dem ks ks') (h : ER mg P ks H σ ρ) : ER mg P ks' H σ ρ := ⟨h.1, fun i d e => by
  obtain ⟨v, e1, r⟩ := h.2 i d e
  refine ⟨v, e1, ?_⟩
  rcases dm i with q | ⟨q1, q2⟩
  · rw [q]; exact r
  · rw [q2]; rw [q1] at r; exact r⟩
theorem EvNS.undem (dm : Dem ks ks') (h : EvNS X ks' F e f) : EvNS X ks F e f := by
  obtain ⟨t, p, q⟩ := h.ex
  exact ⟨t, p, fun σ H P ρ Q d fr er ev k => q σ H P ρ Q d fr (er.undem dm) ev k⟩
theorem EvNL.undem (dm : Dem ks ks') (h : EvNL X ks' F e f) : EvNL X ks F e f := by
  obtain ⟨t, p, q⟩ := h.ex
  exact ⟨t, p, fun σ H P ρ Q d fr er ev k => q σ H P ρ Q d fr (er.undem dm) ev k⟩
end

/-! ### which stores are exchanged -/
def swB (c : SC) (e : Expr) (x : Str) (p : Pos) : Bool :=
  match e with
  | .ListComp _ _ s q => decide (c.scope.names.lookup x = some .local) && p.line == q.line && !(s.names.any fun (n, k) => n == x && (k == .local || k == .cell))
  | .SetComp _ _ s q => decide (c.scope.names.lookup x = some .local) && p.line == q.line && !(s.names.any fun (n, k) => n == x && (k == .local || k == .cell))
  | .DictComp _ _ _ s q => decide (c.scope.names.lookup x = some .local) && p.line == q.line && !(s.names.any fun (n, k) => n == x && (k == .local || k == .cell))
  | _ => false
section
variable {T : Tab} {c : SC} {X : Cx} {F : Fn}
theorem XOk.block (ok : XOk T c X F) : X.env.blockKind = .function := by
  unfold PySem.Env.blockKind
  rw [ok.sc, ok.kind]
  rfl
theorem beq_dec (a : Option NameKind) (b : Option NameKind) : (a == b) = decide (a = b) := by
  by_cases h : a = b
  · subst h; simp
  · rw [decide_eq_false h]
    exact beq_false_of_ne h
theorem swap_name (ok : XOk T c X F) (e : Expr) (x : Str) (p : Pos) (line : Nat) : swapsWith e (some (.Name x p)) line X.env = pure (swB c e x p) := by
  have hb : (X.env.blockKind == ScopeKind.function) = true := by rw [ok.block]; rfl
  have hk : X.env.kindOf x = c.scope.names.lookup x := by
    unfold PySem.Env.kindOf
    rw [ok.sc]
  cases e <;> first | rfl | skip
  all_goals
    unfold swapsWith swB
    simp only [hb, hk, Bool.true_and, beq_dec]
    rfl
theorem swap_other {tg : Expr} (h : ∀ x p, tg ≠ .Name x p) (e : Expr) (line : Nat) (env : PySem.Env) : swapsWith e (some tg) line env = pure false := by
  cases e <;> first | rfl | (cases tg <;> first | rfl | exact absurd rfl (h _ _))
def swS (c : SC) (ts vs : List Expr) : Option (Option (List Str)) :=
  if !(ts.length == 2 || ts.length == 3) || vs.length != ts.length then some none
  else if !(vs.all noStar) then some none
  else
    let line := (ts.head?.map (·.pos.line)).getD 0
    let names := ts.filterMap fun
      | .Name id pos => if decide (c.scope.names.lookup id = some .local) && pos.line == line then some id else none
      | _ => none
    if names.length != ts.length || names.eraseDups.length != names.length then some none
    else if vs.all (foldedForSure 8) then some none
    else if vs.all (constantsAlone 8) then none
    else some (some names)
theorem any_star : ∀ vs : List Expr, (vs.any fun | .Starred .. => true | _ => false) = !(vs.all noStar)
  | [] => rfl
  | v :: vs => by
    rw [List.any_cons, List.all_cons, any_star vs, Bool.not_and]
    cases v <;> rfl
theorem swS_ok (ok : XOk T c X F) {ts vs : List Expr} {o : Option (List Str)} {k k2 : Nat} {p p2 : Pos} (h : swS c ts vs = some o) : swappedStores [.Tuple ts k p] (.Tuple vs k2 p2) X.env = pure o := by
  have hb : (X.env.blockKind != ScopeKind.function) = false := by rw [ok.block]; rfl
  have hk : ∀ x, X.env.kindOf x = c.scope.names.lookup x := fun x => by
    unfold PySem.Env.kindOf
    rw [ok.sc]
  unfold swappedStores
  unfold swS at h
  dsimp only at h ⊢
  rw [hb, Bool.or_false]
  simp only [hk, beq_dec]
  by_cases c1 : (!(ts.length == 2 || ts.length == 3) || vs.length != ts.length) = true
  · rw [if_pos c1] at h ⊢
    cases h; rfl
  · rw [if_neg c1] at h ⊢
    by_cases c2 : (!(vs.all noStar)) = true
    · rw [if_pos c2] at h
      cases h
      exact if_pos ((any_star vs).trans c2)
    · rw [if_neg c2] at h
      refine Eq.trans (if_neg fun z => c2 ((any_star vs).symm.trans z)) ?_
      split at h
      · rename_i c3
        cases h
        exact if_pos c3
      · rename_i c3
        refine Eq.trans (if_neg c3) ?_
        split at h
        · rename_i c4
          cases h
          exact if_pos c4
        · rename_i c4
          refine Eq.trans (if_neg c4) ?_
          split at h
          · cases h
          · rename_i c5
            cases h
            exact if_neg c5
theorem sw_name {x : Str} {p : Pos} (e : Expr) (env : PySem.Env) : swappedStores [.Name x p] e env = pure none := by cases e <;> rfl
theorem sw_sub {a b : Expr} {p : Pos} (e : Expr) (env : PySem.Env) : swappedStores [.Subscript a b p] e env = pure none := by cases e <;> rfl
def notTup : Expr → Bool
  | .Tuple _ _ _ => false
  | _ => true
theorem sw_tup {ts : List Expr} {k : Nat} {p : Pos} {e : Expr} (h : notTup e = true) (env : PySem.Env) : swappedStores [.Tuple ts k p] e env = pure none := by cases e <;> first | rfl | cases h
end
end RE
/-! RE17: expressions, with their proofs. -/
namespace RE
open PySem PySem.Spec PyProof.Rows L2

abbrev CN (T : Tab) (c : SC) (ks : Ks) (e : Expr) := Option { f : SE // ∀ X F, XOk T c X F → EvN X ks F e f }
abbrev CNS (T : Tab) (c : SC) (ks : Ks) (e : Expr) := Option { f : SE // ∀ X F, XOk T c X F → EvNS X ks F e f }
abbrev CE (T : Tab) (c : SC) (ks : Ks) (e : Expr) := Option { f : SE // ∀ X F, XOk T c X F → EvE X ks F e f }
abbrev CP (T : Tab) (c : SC) (ks : Ks) (e : Expr) := Option { f : SE // ∀ X F, XOk T c X F → EvP X ks F e f }
abbrev CT (T : Tab) (c : SC) (ks : Ks) (e : Expr) := Option { f : SB // ∀ X F, XOk T c X F → EvT X ks F e f }
abbrev CW (T : Tab) (c : SC) (ks : Ks) (e : Expr) := Option { f : SB // ∀ X F, XOk T c X F → EvW X ks F e f }
abbrev CA (T : Tab) (c : SC) (ks : Ks) (pk : List Kind) (es : List Expr) := Option { g : SA // (∀ F ρ ds, g F ρ = some ds → ds.length = es.length) ∧ ∀ X F, XOk T c X F → EvA X ks F pk es g }
abbrev CI (T : Tab) (c : SC) (ks : Ks) (tg e : Expr) := Option { f : SL // ∀ X F, XOk T c X F → EvI X ks F tg e f }
abbrev CQ (T : Tab) (c : SC) (ks : Ks) (e : Expr) := Option { f : SE // ∀ X F, XOk T c X F → EvQ X ks F e f }
abbrev CG (T : Tab) (c : SC) (ks : Ks) (tg : Expr) := Option { p : List Nat × SG // (∀ X F, XOk T c X F → EvG X ks tg p.1 p.2) ∧ Touches p.2 p.1 ∧ ∀ j ∈ p.1, kd ks j = .F }
abbrev CGs (T : Tab) (c : SC) (ks : Ks) (tgs : List Expr) := Option { p : List Nat × SGs // (∀ X F, XOk T c X F → EvGs X ks tgs p.1 p.2) ∧ TouchesL p.2 p.1 ∧ Takes p.2 tgs.length ∧ ∀ j ∈ p.1, kd ks j = .F }
structure Rec (T : Tab) where
  n : ∀ c ks e, CN T c ks e
  s : ∀ c ks e, CNS T c ks e
  e : ∀ c ks e, CE T c ks e
  p : ∀ c ks e, CP T c ks e
  t : ∀ c ks e, CT T c ks e
  i : ∀ c ks tg e, CI T c ks tg e
section
variable {T : Tab} (r : Rec T) (c : SC) (ks : Ks)
theorem cCons_len {f : SE} {g : SA} {es : List Expr} {e : Expr} (h : ∀ F ρ ds, g F ρ = some ds → ds.length = es.length) : ∀ F ρ ds, cCons f g F ρ = some ds → ds.length = (e :: es).length := fun F ρ ds ev => by
  obtain ⟨d, e1, ev⟩ := Option.bind_eq_some_iff.mp ev
  obtain ⟨ds', e2, ev⟩ := Option.bind_eq_some_iff.mp ev
  cases ev
  rw [List.length_cons, List.length_cons, h F ρ ds' e2]
def compA : (pk : List Kind) → (es : List Expr) → CA T c ks pk es
  | pk, [] => some ⟨cNil, fun F ρ ds e => by cases e; rfl, fun X F ok => evA_nil⟩
  | pk, e :: es => if hs : noStar e = true then
      if hk : pk.headD .F = .F then (r.e c ks e).bind fun f => (compA pk.tail es).map fun g => ⟨cCons f.1 g.1, cCons_len g.2.1, fun X F ok => evA_consE hk hs (f.2 X F ok) (g.2.2 X F ok)⟩
      else (r.p c ks e).bind fun f => (compA pk.tail es).map fun g => ⟨cCons f.1 g.1, cCons_len g.2.1, fun X F ok => evA_consP hk hs (f.2 X F ok) (g.2.2 X F ok)⟩
    else none
mutual
def compG : Nat → (tg : Expr) → CG T c ks tg
  | 0, _ => none
  | n + 1, .Name x pos => match hi : c.ix x with
    | some i => if h : c.loc x = true ∧ c.sto x = true ∧ kd ks i = .F then
        some ⟨([i], gN i), fun X F ok => evG_name ok.nodup (ok.ix hi) (ok.loc h.1) h.2.2 (ok.sto x h.2.1), touches_name, fun j hj => by rw [List.mem_singleton.mp hj]; exact h.2.2⟩
      else none
    | none => none
  | n + 1, .Tuple ts k pos => if h : ts.all noStar = true then (compGs n ts).map fun p => ⟨(p.1.1, gT p.1.2), fun X F ok => evG_tup ok.calm h p.2.2.2.1 (p.2.1 X F ok), touches_tup p.2.2.1, p.2.2.2.2⟩ else none
  | _, _ => none
def compGs : Nat → (tgs : List Expr) → CGs T c ks tgs
  | 0, _ => none
  | n + 1, [] => some ⟨([], gsNil), fun X F ok => evGs_nil, touches_nil, takes_nil, fun j hj => by cases hj⟩
  | n + 1, t :: ts => if h : noStar t = true then (compG n t).bind fun p => (compGs n ts).map fun q => ⟨(p.1.1 ++ q.1.1, gsCons p.1.2 q.1.2), fun X F ok => evGs_cons h (p.2.1 X F ok) (q.2.1 X F ok), touches_cons p.2.2.1 q.2.2.1, takes_cons q.2.2.2.1, fun j hj => (List.mem_append.mp hj).elim (p.2.2.2 j) (q.2.2.2.2 j)⟩ else none
end
def compQ : (e : Expr) → CQ T c ks e
  | .Name x pos => match hi : c.ix x with
    | some i => if h : c.vis x = true ∧ plainName x = true then
        if hk : kd ks i = .L ∨ kd ks i = .B then some ⟨cV i, fun X F ok => evQ_var (ok.ix hi) (ok.vis h.1) hk (plain_d h.2) (plain_c h.2)⟩
        else (r.e c ks (.Name x pos)).map fun f => ⟨f.1, fun X F ok => (f.2 X F ok).toQ⟩
      else none
    | none => none
  | e => (r.e c ks e).map fun f => ⟨f.1, fun X F ok => (f.2 X F ok).toQ⟩
def compTs : (ifs : List Expr) → Option { f : SB // ∀ X F, XOk T c X F → EvTs X ks F ifs f }
  | [] => some ⟨cTrue, fun X F ok => evTs_nil⟩
  | [e] => (r.t c ks e).map fun f => ⟨f.1, fun X F ok => evTs_one (f.2 X F ok)⟩
  | _ => none
def slotsOf : Expr → List Nat
  | .Name x _ => (c.ix x).toList
  | .Call _ es _ _ => es.filterMap fun | .Name x _ => c.ix x | _ => none
  | _ => []
def ownOf (scope : Scope) : List (Str × Nat) := scope.names.filterMap fun (n, k) => if (decide (k = .local) || decide (k = .cell)) = true then (c.ix n).map fun i => (n, i) else none
theorem plainIter_ok {iter : Expr} (h : plainIter iter = true) (env : PySem.Env) : ∀ x, foldedSetIterable iter env x = pure x := by
  intro x
  cases iter <;> first | rfl | cases h
def compLc (ks' : Ks) (elt tg iter : Expr) (ifs : List Expr) (scope : Scope) (pos : Pos) : CNS T c ks' (.ListComp elt [⟨tg, iter, ifs, 0⟩] scope pos) :=
  if h : blkC c.N c.scope scope (ownOf c scope) = true ∧ scope.kind = .function ∧ plainIter iter = true then
    let kb := setF ((ownOf c scope).map (·.2)) 0 ks'
    (r.i c ks' tg iter).bind fun fi => (compG (T := T) (c.blk scope) kb 20 tg).bind fun g => (compTs r (c.blk scope) kb ifs).bind fun ft => (r.e (c.blk scope) kb elt).bind fun fe =>
      if his : ∀ j ∈ g.1.1, j ∈ (ownOf c scope).map (·.2) then
        some ⟨cLc ((ownOf c scope).map (·.2)) fi.1 g.1.2 ft.1 fe.1, fun X F ok => evNS_lc ok.calm ok.nodup (fi.2 X F ok) (by rw [ok.hN, ok.sc]; exact blkOk_by h.1) his (fun i hi => kd_setF _ ks' 0 i (by rw [Nat.zero_add]; exact hi))
          (fun s H C cl fp => g.2.1 _ F (ok.blk h.2.1 s H C cl fp)) (fun s H C cl fp => ft.2 _ F (ok.blk h.2.1 s H C cl fp)) (fun s H C cl fp => fe.2 _ F (ok.blk h.2.1 s H C cl fp)) (plainIter_ok h.2.2 X.env)⟩
      else none
  else none
def compNL (elt tg iter : Expr) (scope : Scope) (pos : Pos) : Option { f : SE // ∀ X F, XOk T c X F → EvNL X ks F (.ListComp elt [⟨tg, iter, [], 0⟩] scope pos) f } :=
  if h : blkC c.N c.scope scope (ownOf c scope) = true ∧ scope.kind = .function ∧ plainIter iter = true then
    let ks' := demote (slotsOf c iter) 0 ks
    let kb := setF ((ownOf c scope).map (·.2)) 0 ks'
    (r.i c ks' tg iter).bind fun fi => (compG (T := T) (c.blk scope) kb 20 tg).bind fun g => (r.n (c.blk scope) kb elt).bind fun fe =>
      if his : ∀ j ∈ g.1.1, j ∈ (ownOf c scope).map (·.2) then
        some ⟨cNL ((ownOf c scope).map (·.2)) fi.1 g.1.2 fe.1, fun X F ok => (evNL_lc ok.calm ok.nodup (fi.2 X F ok) (by rw [ok.hN, ok.sc]; exact blkOk_by h.1) his (fun i hi => kd_setF _ ks' 0 i (by rw [Nat.zero_add]; exact hi))
          (fun s H C cl fp => g.2.1 _ F (ok.blk h.2.1 s H C cl fp)) (fun s H C cl fp => fe.2 _ F (ok.blk h.2.1 s H C cl fp)) (plainIter_ok h.2.2 X.env)).undem (dem_demote _ ks 0)⟩
      else none
  else none
def compLc2 (ks' : Ks) (elt tg iter tg1 iter1 : Expr) (ifs ifs1 : List Expr) (scope : Scope) (pos : Pos) : CNS T c ks' (.ListComp elt [⟨tg, iter, ifs, 0⟩, ⟨tg1, iter1, ifs1, 0⟩] scope pos) :=
  if h : blkC c.N c.scope scope (ownOf c scope) = true ∧ scope.kind = .function ∧ plainIter iter = true ∧ plainIter iter1 = true then
    let kb := setF ((ownOf c scope).map (·.2)) 0 ks'
    (r.i c ks' tg iter).bind fun fi => (compG (T := T) (c.blk scope) kb 20 tg).bind fun g => (compTs r (c.blk scope) kb ifs).bind fun ft => (r.i (c.blk scope) kb tg1 iter1).bind fun fi1 =>
      (compG (T := T) (c.blk scope) kb 20 tg1).bind fun g1 => (compTs r (c.blk scope) kb ifs1).bind fun ft1 => (r.e (c.blk scope) kb elt).bind fun fe =>
      if his : (∀ j ∈ g.1.1, j ∈ (ownOf c scope).map (·.2)) ∧ ∀ j ∈ g1.1.1, j ∈ (ownOf c scope).map (·.2) then
        some ⟨cLc2 ((ownOf c scope).map (·.2)) g1.1.1 fi.1 g.1.2 ft.1 fi1.1 g1.1.2 ft1.1 fe.1, fun X F ok => evNS_lc2 ok.calm ok.nodup (fi.2 X F ok) (by rw [ok.hN, ok.sc]; exact blkOk_by h.1) his.1 his.2 (fun _ z => z) (fun i hi => kd_setF _ ks' 0 i (by rw [Nat.zero_add]; exact hi)) g.2.2.1 g.2.2.2
          (fun s H C cl fp => g.2.1 _ F (ok.blk h.2.1 s H C cl fp)) (fun s H C cl fp => ft.2 _ F (ok.blk h.2.1 s H C cl fp)) (fun s H C cl fp => fi1.2 _ F (ok.blk h.2.1 s H C cl fp)) (fun s H C cl fp => g1.2.1 _ F (ok.blk h.2.1 s H C cl fp)) (fun s H C cl fp => ft1.2 _ F (ok.blk h.2.1 s H C cl fp)) (fun s H C cl fp => fe.2 _ F (ok.blk h.2.1 s H C cl fp)) (plainIter_ok h.2.2.1 X.env) (fun env => plainIter_ok h.2.2.2 env)⟩
      else none
  else none
def stepS : (e : Expr) → CNS T c ks e
  | .ListComp elt [⟨tg, iter, ifs, 0⟩, ⟨tg1, iter1, ifs1, 0⟩] scope pos => (compLc2 r c (demote (slotsOf c iter ++ slotsOf c iter1) 0 ks) elt tg iter tg1 iter1 ifs ifs1 scope pos).map fun f => ⟨f.1, fun X F ok => (f.2 X F ok).undem (dem_demote _ ks 0)⟩
  | .ListComp elt [⟨tg, iter, ifs, 0⟩] scope pos => (compLc r c (demote (slotsOf c iter) 0 ks) elt tg iter ifs scope pos).map fun f => ⟨f.1, fun X F ok => (f.2 X F ok).undem (dem_demote _ ks 0)⟩
  | _ => none
/-- a slice's part -/
def compO : (o : Option Expr) → Option { f : SO // ∀ X F, XOk T c X F → EvO X ks F o f }
  | none => some ⟨cNone, fun X F ok => evO_none⟩
  | some e => (r.p c ks e).map fun f => ⟨cPart f.1, fun X F ok => evO_some (f.2 X F ok)⟩
end
end RE
/-! RE18: expressions, with their proofs, by forms. -/
namespace RE
open PySem PySem.Spec PyProof.Rows L2

/-- types by their names -/
def tyOf (y : Str) : Option { U : String // Str.ofString U = y ∧ tyKnown U = true ∧ bootBuiltins y = some (.type U) } :=
  if h : y = "int" then some ⟨"int", by rw [h]; exact ⟨rfl, by decide +kernel, by decide +kernel⟩⟩
  else if h : y = "bool" then some ⟨"bool", by rw [h]; exact ⟨rfl, by decide +kernel, by decide +kernel⟩⟩
  else if h : y = "str" then some ⟨"str", by rw [h]; exact ⟨rfl, by decide +kernel, by decide +kernel⟩⟩
  else if h : y = "tuple" then some ⟨"tuple", by rw [h]; exact ⟨rfl, by decide +kernel, by decide +kernel⟩⟩
  else if h : y = "list" then some ⟨"list", by rw [h]; exact ⟨rfl, by decide +kernel, by decide +kernel⟩⟩
  else none
theorem xop_units {T : Tab} {c : SC} {X : Cx} {F : Fn} (ok : XOk T c X F) : X.A.units + 65 < cLine ∧ X.A.units + 64 < cLine ∧ X.A.units + 1 < cLine := by
  have := ok.un
  omega
section
variable {T : Tab} (r : Rec T) (c : SC) (ks : Ks)
/-- a global name's look -/
def glB (x : Str) : Bool := c.gl x && plainName x
def bltB (T : Tab) (c : SC) (x : Str) : Bool := c.gl x && plainName x && decide (x ∈ T.blt)
theorem bltB_ok {T : Tab} {c : SC} {x : Str} {X : Cx} {F : Fn} (ok : XOk T c X F) (h : bltB T c x = true) : Gl X x ∧ X.mg x = none ∧ (x == ("__debug__" : Str)) = false ∧ x ≠ "__name__" := by
  unfold bltB at h
  rw [Bool.and_eq_true, Bool.and_eq_true, decide_eq_true_eq] at h
  exact ⟨ok.gl h.1.1, ok.blt x h.2, plain_d h.1.2, plain_n h.1.2⟩
def compConst (x : Str) (pos : Pos) : CN T c ks (.Name x pos) :=
  match hd : T.glb.lookup x with
  | some d => if h : c.gl x = true ∧ plainName x = true then some ⟨cC d, fun X F ok => by
      obtain ⟨v, u, h1, h2, h3⟩ := ok.glb x d hd
      exact evN_glob h1 (ok.gl h.1) h2 h3 (plain_d h.2)⟩ else none
  | none => none
def compIsi (e : Expr) (p pos : Pos) : (k : Expr) → CN T c ks (.Call (.Name "isinstance" p) [e, k] [] pos)
  | .Name y p2 => (tyOf y).bind fun U => if h : bltB T c "isinstance" = true ∧ bltB T c y = true ∧ noStar e = true then (r.p c ks e).map fun f => ⟨cU (isiD [U.1]) f.1, fun X F ok => by
      obtain ⟨U, hU, h2, h3⟩ := U
      subst hU
      have a := bltB_ok ok h.1
      have b := bltB_ok ok h.2.1
      exact evN_isi a.1 a.2.1 h2 b.1 b.2.1 h3 b.2.2.2 b.2.2.1 h.2.2 (f.2 X F ok)⟩ else none
  | .Tuple [.Name y p2, .Name z p3] kt p4 => (tyOf y).bind fun U => (tyOf z).bind fun W => if h : bltB T c "isinstance" = true ∧ bltB T c y = true ∧ bltB T c z = true ∧ noStar e = true then (r.p c ks e).map fun f => ⟨cU (isiD [U.1, W.1]) f.1, fun X F ok => by
      obtain ⟨U, hU, h2, h3⟩ := U
      obtain ⟨W, hW, h4, h5⟩ := W
      subst hU hW
      have a := bltB_ok ok h.1
      have b := bltB_ok ok h.2.1
      have b' := bltB_ok ok h.2.2.1
      exact evN_isi2 a.1 a.2.1 h2 b.1 b.2.1 h3 b.2.2.2 b.2.2.1 h4 b'.1 b'.2.1 h5 b'.2.2.2 b'.2.2.1 h.2.2.2 (f.2 X F ok)⟩ else none
  | _ => none
noncomputable def compBf (x : Str) (p pos : Pos) (a : Expr) (es : List Expr) : CN T c ks (.Call (.Name x p) (a :: es) [] pos) :=
  match hb : bfs.find? fun b => decide (b.x = x) && b.n == es.length + 1 with
  | some b => if h : bltB T c b.x = true ∧ (a :: es).all noStar = true then (compA r c ks [.B, .B, .B, .B] (a :: es)).map fun g => ⟨cCall b.op g.1, fun X F ok => by
      have hx : b.x = x := by
        have := List.find?_some hb
        rw [Bool.and_eq_true] at this
        exact of_decide_eq_true this.1
      subst hx
      have q := h.1
      unfold bltB at q
      rw [Bool.and_eq_true, Bool.and_eq_true, decide_eq_true_eq] at q
      exact evN_bf ok b q.1.1 q.2 q.1.2 h.2 (g.2.2 X F ok)⟩ else none
  | none => none
def compFn (x : Str) (p pos : Pos) (es : List Expr) : CE T c ks (.Call (.Name x p) es [] pos) :=
  match hf : T.fns.lookup x with
  | some pk => if h : c.gl x = true ∧ plainName x = true ∧ es.all noStar = true ∧ es.length = pk.ks.length then (compA r c ks pk.ks es).map fun g => ⟨cFn x g.1, fun X F ok => evE_call (ok.fns x pk hf) (ok.gl h.1) (plain_d h.2.1) h.2.2.1 h.2.2.2 g.2.1 (g.2.2 X F ok)⟩ else none
  | none => none
/-- the defs of n shared parameters -/
def sigIs (T : Tab) (n : Nat) (f : Str) : Bool := match T.fns.lookup f with
  | some pk => decide (pk.ks = List.replicate n Kind.F) && !pk.nw
  | none => false
theorem sigIs_ok {T : Tab} {n : Nat} {f : Str} (h : sigIs T n f = true) : T.fns.lookup f = some ⟨List.replicate n Kind.F, false⟩ := by
  unfold sigIs at h
  split at h
  · rename_i pk e
    rw [Bool.and_eq_true, decide_eq_true_eq, Bool.not_eq_true'] at h
    rw [e]
    obtain ⟨k, w⟩ := pk
    obtain ⟨h1, h2⟩ := h
    have h1 : k = _ := h1
    have h2 : w = false := h2
    subst h1 h2
    rfl
  · cases h
def gsOf (T : Tab) (n : Nat) : List Str := (T.fns.map (·.1)).filter (sigIs T n)
def compFnV (x : Str) (p pos : Pos) (es : List Expr) : CE T c ks (.Call (.Name x p) es [] pos) :=
  match hi : c.ix x with
  | some i => if h : c.vis x = true ∧ plainName x = true ∧ es.isEmpty = false ∧ es.all noStar = true then (compA r c ks (List.replicate es.length .F) es).map fun g => ⟨cFnP i (gsOf T es.length) g.1, fun X F ok =>
      evE_callP (pk := ⟨List.replicate es.length .F, false⟩) (fun f hf => ok.fns f _ (sigIs_ok (List.mem_filter.mp hf).2)) (ok.ix hi) (ok.vis h.1) (plain_d h.2.1) (plain_c h.2.1) (fun z => by subst z; cases h.2.2.1) h.2.2.2 (by rw [List.length_replicate]) g.2.1 (g.2.2 X F ok)⟩ else none
  | none => none
def compFnN (x : Str) (p pos : Pos) (es : List Expr) : CN T c ks (.Call (.Name x p) es [] pos) :=
  match hf : T.fns.lookup x with
  | some pk => if h : c.gl x = true ∧ plainName x = true ∧ es.all noStar = true ∧ es.length = pk.ks.length then
    if hn : pk.nw = true then (compA r c ks pk.ks es).map fun g => ⟨cFn x g.1, fun X F ok => evN_callNew hn (ok.fns x pk hf) (ok.gl h.1) (plain_d h.2.1) h.2.2.1 h.2.2.2 g.2.1 (g.2.2 X F ok)⟩
    else (compA r c ks pk.ks es).map fun g => ⟨cFnN x g.1, fun X F ok => evN_call (ok.fns x pk hf) (ok.gl h.1) (plain_d h.2.1) h.2.2.1 h.2.2.2 g.2.1 (g.2.2 X F ok)⟩ else none
  | none => none
def compCmp (a b : Expr) (pos : Pos) : (op : CmpOp) → CN T c ks (.Compare a [op] [b] pos)
  | .In => if h : behindInMarks .In b = false then (r.p c ks a).bind fun f => (r.p c ks b).map fun g => ⟨cB inD f.1 g.1, fun X F ok => evN_in (xop_units ok).1 h (f.2 X F ok) (g.2 X F ok)⟩ else none
  | .NotIn => if h : behindInMarks .NotIn b = false then (r.p c ks a).bind fun f => (r.p c ks b).map fun g => ⟨cB notInD f.1 g.1, fun X F ok => evN_notIn (xop_units ok).1 h (f.2 X F ok) (g.2 X F ok)⟩ else none
  | op => if h : behindInMarks op b = false then (cmpF op).bind fun o => (r.p c ks a).bind fun f => (r.p c ks b).map fun g => ⟨cB o.1 f.1 g.1, fun X F ok => by
      obtain ⟨rr, h1, h2⟩ := o.2 X ok.un
      exact evN_cmp h1 h2 h (f.2 X F ok) (g.2 X F ok)⟩ else none
def compCmpT (a b : Expr) (pos : Pos) : (op : CmpOp) → CT T c ks (.Compare a [op] [b] pos)
  | .In => if h : behindInMarks .In b = false then (r.p c ks a).bind fun f => (r.p c ks b).map fun g => ⟨cBT inD f.1 g.1, fun X F ok => evT_in (xop_units ok).1 h (f.2 X F ok) (g.2 X F ok)⟩ else none
  | .NotIn => if h : behindInMarks .NotIn b = false then (r.p c ks a).bind fun f => (r.p c ks b).map fun g => ⟨cBT notInD f.1 g.1, fun X F ok => evT_notIn (xop_units ok).1 h (f.2 X F ok) (g.2 X F ok)⟩ else none
  | op => if h : behindInMarks op b = false then (cmpF op).bind fun o => (r.p c ks a).bind fun f => (r.p c ks b).map fun g => ⟨cBT o.1 f.1 g.1, fun X F ok => by
      obtain ⟨rr, h1, h2⟩ := o.2 X ok.un
      exact evT_cmp h1 h2 h (f.2 X F ok) (g.2 X F ok)⟩ else none
def cChT (o o' : D → D → Option D) (f g h : SE) : SB := fun F ρ => (cCh o o' f g h F ρ).bind boolD
/-- sorted(..) -/
noncomputable def compSortSc (p pos2 pos : Pos) (elt tg iter : Expr) (ifs : List Expr) (scope : Scope) : CN T c ks (.Call (.Name "sorted" p) [.SetComp elt [⟨tg, iter, ifs, 0⟩] scope pos2] [] pos) :=
  if h : bltB T c "sorted" = true ∧ blkC c.N c.scope scope (ownOf c scope) = true ∧ scope.kind = .function ∧ plainIter iter = true then
    let kb := setF ((ownOf c scope).map (·.2)) 0 ks
    (r.i c ks tg iter).bind fun fi => (compG (T := T) (c.blk scope) kb 20 tg).bind fun g => (compTs r (c.blk scope) kb ifs).bind fun ft => (r.e (c.blk scope) kb elt).bind fun fe =>
      if his : ∀ j ∈ g.1.1, j ∈ (ownOf c scope).map (·.2) then
        some ⟨cSs ((ownOf c scope).map (·.2)) fi.1 g.1.2 ft.1 fe.1, fun X F ok => evN_scSort ok.calm ok.un ok.nodup (bltB_ok ok h.1).1 (bltB_ok ok h.1).2.1 (fi.2 X F ok) (by rw [ok.hN, ok.sc]; exact blkOk_by h.2.1) his (fun i hi => kd_setF _ ks 0 i (by rw [Nat.zero_add]; exact hi))
          (fun s H C cl fp => g.2.1 _ F (ok.blk h.2.2.1 s H C cl fp)) (fun s H C cl fp => ft.2 _ F (ok.blk h.2.2.1 s H C cl fp)) (fun s H C cl fp => fe.2 _ F (ok.blk h.2.2.1 s H C cl fp)) (plainIter_ok h.2.2.2 X.env)⟩
      else none
  else none
noncomputable def compSorted (p pos : Pos) : (a : Expr) → CN T c ks (.Call (.Name "sorted" p) [a] [] pos)
  | .Call (.Name y p2) [e] [] pos2 => if h : y = "set" ∧ bltB T c "sorted" = true ∧ bltB T c "set" = true ∧ noStar e = true then (r.p c ks e).map fun f => ⟨cU setSortD f.1, fun X F ok => by
      obtain ⟨rfl, h1, h2, h3⟩ := h
      have a := bltB_ok ok h1
      have b := bltB_ok ok h2
      exact evN_setSort ok.calm ok.un a.1 a.2.1 b.1 b.2.1 h3 (f.2 X F ok)⟩ else compBf r c ks "sorted" p pos (.Call (.Name y p2) [e] [] pos2) []
  | .SetComp elt [⟨tg, iter, ifs, 0⟩] scope pos2 => compSortSc r c ks p pos2 pos elt tg iter ifs scope
  | a => compBf r c ks "sorted" p pos a []
/-- a list comprehension over a dict's keys -/
def compLcD (elt tg : Expr) (x : Str) (p : Pos) (ifs : List Expr) (scope : Scope) (pos : Pos) : CN T c ks (.ListComp elt [⟨tg, .Name x p, ifs, 0⟩] scope pos) :=
  match hi : c.ix x with
  | some i => if h : blkC c.N c.scope scope (ownOf c scope) = true ∧ scope.kind = .function ∧ c.vis x = true ∧ plainName x = true then
    let kb := setF ((ownOf c scope).map (·.2)) 0 ks
    (compG (T := T) (c.blk scope) kb 20 tg).bind fun g => (compTs r (c.blk scope) kb ifs).bind fun ft => (r.e (c.blk scope) kb elt).bind fun fe =>
      if his : ∀ j ∈ g.1.1, j ∈ (ownOf c scope).map (·.2) then
        some ⟨cLc ((ownOf c scope).map (·.2)) (cKeys i) g.1.2 ft.1 fe.1, fun X F ok => evN_lcD ok.calm ok.nodup (ok.ix hi) (ok.vis h.2.2.1) (plain_d h.2.2.2) (plain_c h.2.2.2) (by rw [ok.hN, ok.sc]; exact blkOk_by h.1) his (fun i hi => kd_setF _ ks 0 i (by rw [Nat.zero_add]; exact hi))
          (fun s H C cl fp => g.2.1 _ F (ok.blk h.2.1 s H C cl fp)) (fun s H C cl fp => ft.2 _ F (ok.blk h.2.1 s H C cl fp)) (fun s H C cl fp => fe.2 _ F (ok.blk h.2.1 s H C cl fp)) (fun _ => rfl)⟩
      else none
    else none
  | none => none
/-- a dict comprehension -/
def compDcS (k : Bool) (kx vx tg iter : Expr) (ifs : List Expr) (scope : Scope) (pos : Pos) : Option { f : SE // ∀ X F, XOk T c X F → EvMS X ks F (.DictComp kx vx [⟨tg, iter, ifs, 0⟩] scope pos) f } :=
  if h : blkC c.N c.scope scope (ownOf c scope) = true ∧ scope.kind = .function ∧ plainIter iter = true then
    let kb := setF ((ownOf c scope).map (·.2)) 0 ks
    (r.i c ks tg iter).bind fun fi => (compG (T := T) (c.blk scope) kb 20 tg).bind fun g => (compTs r (c.blk scope) kb ifs).bind fun ft => (r.e (c.blk scope) kb kx).bind fun fk => (r.e (c.blk scope) kb vx).bind fun fe =>
      if his : ∀ j ∈ g.1.1, j ∈ (ownOf c scope).map (·.2) then
        some ⟨cDc k ((ownOf c scope).map (·.2)) fi.1 g.1.2 ft.1 fk.1 fe.1, fun X F ok => evMS_dc k (xop_units ok).2.2 ok.calm ok.nodup (fi.2 X F ok) (by rw [ok.hN, ok.sc]; exact blkOk_by h.1) his (fun i hi => kd_setF _ ks 0 i (by rw [Nat.zero_add]; exact hi))
          (fun s H C cl fp => g.2.1 _ F (ok.blk h.2.1 s H C cl fp)) (fun s H C cl fp => ft.2 _ F (ok.blk h.2.1 s H C cl fp)) (fun s H C cl fp => fk.2 _ F (ok.blk h.2.1 s H C cl fp)) (fun s H C cl fp => fe.2 _ F (ok.blk h.2.1 s H C cl fp)) (plainIter_ok h.2.2 X.env)⟩
      else none
  else none
def compDc (k : Bool) (kx vx tg iter : Expr) (ifs : List Expr) (scope : Scope) (pos : Pos) : Option { f : SE // ∀ X F, XOk T c X F → EvM X ks F (.DictComp kx vx [⟨tg, iter, ifs, 0⟩] scope pos) f } :=
  (compDcS r c ks k kx vx tg iter ifs scope pos).map fun f => ⟨f.1, fun X F ok => (f.2 X F ok).toM⟩
/-- over x.items() -/
def compDcI (k : Bool) (kx vx : Expr) (elts : List Expr) (kk : Nat) (tpos : Pos) (x : Str) (p : Pos) (m : Str) (apos cpos : Pos) (ifs : List Expr) (scope : Scope) (pos : Pos) : Option { f : SE // ∀ X F, XOk T c X F → EvM X ks F (.DictComp kx vx [⟨.Tuple elts kk tpos, .Call (.Attribute (.Name x p) m apos) [] [] cpos, ifs, 0⟩] scope pos) f } :=
  match hi : c.ix x with
  | some i => if h : m = "items" ∧ blkC c.N c.scope scope (ownOf c scope) = true ∧ scope.kind = .function ∧ c.vis x = true ∧ plainName x = true ∧ (apos.endLine == cpos.line) = true then
    let kb := setF ((ownOf c scope).map (·.2)) 0 ks
    (compG (T := T) (c.blk scope) kb 20 (.Tuple elts kk tpos)).bind fun g => (compTs r (c.blk scope) kb ifs).bind fun ft => (r.e (c.blk scope) kb kx).bind fun fk => (r.e (c.blk scope) kb vx).bind fun fe =>
      if his : ∀ j ∈ g.1.1, j ∈ (ownOf c scope).map (·.2) then
        some ⟨cDc k ((ownOf c scope).map (·.2)) (cItems i) g.1.2 ft.1 fk.1 fe.1, fun X F ok => by
          obtain ⟨rfl, h1, h2, h3, h4, h5⟩ := h
          exact evM_dcI k (xop_units ok).2.2 ok.calm ok.nodup (ok.ix hi) (ok.vis h3) (plain_d h4) (plain_c h4) h5 (by rw [ok.hN, ok.sc]; exact blkOk_by h1) his (fun i hi => kd_setF _ ks 0 i (by rw [Nat.zero_add]; exact hi))
            (fun s H C cl fp => g.2.1 _ F (ok.blk h2 s H C cl fp)) (fun s H C cl fp => ft.2 _ F (ok.blk h2 s H C cl fp)) (fun s H C cl fp => fk.2 _ F (ok.blk h2 s H C cl fp)) (fun s H C cl fp => fe.2 _ F (ok.blk h2 s H C cl fp))⟩
      else none
    else none
  | none => none
def compDcA (k : Bool) (kx vx : Expr) : (tg iter : Expr) → (ifs : List Expr) → (scope : Scope) → (pos : Pos) → Option { f : SE // ∀ X F, XOk T c X F → EvM X ks F (.DictComp kx vx [⟨tg, iter, ifs, 0⟩] scope pos) f }
  | .Tuple elts kk tpos, .Call (.Attribute (.Name x p) m apos) [] [] cpos, ifs, scope, pos => compDcI r c ks k kx vx elts kk tpos x p m apos cpos ifs scope pos
  | tg, iter, ifs, scope, pos => compDc r c ks k kx vx tg iter ifs scope pos
/-- a method of a written text -/
def compMethS (a : Str) (k : _) (p : Pos) (m : Str) (apos : Pos) (e : Expr) (pos : Pos) : CN T c ks (.Call (.Attribute (.Constant (.str a) k p) m apos) [e] [] pos) :=
  if h : m = "join" ∧ noStar e = true ∧ (apos.endLine == pos.line) = true then (r.p c ks e).map fun f => ⟨cU (joinD a) f.1, fun X F ok => by
    obtain ⟨rfl, h2, h3⟩ := h
    exact evN_join h2 h3 (f.2 X F ok)⟩ else none
noncomputable def stepN : (e : Expr) → CN T c ks e
  | .Constant (.int i) j pos => some ⟨cC (.int i), fun X F ok => evN_int⟩
  | .Constant (.bool b) j pos => some ⟨cC (.bl b), fun X F ok => evN_bl⟩
  | .Constant .none j pos => some ⟨cC .non, fun X F ok => evN_non⟩
  | .Constant (.str s) j pos => some ⟨cC (.str s), fun X F ok => evN_str⟩
  | .Name x pos => compConst c ks x pos
  | .Tuple es x1 pos => (compA r c ks [] es).map fun g => ⟨cTup g.1, fun X F ok => evN_tup (g.2.2 X F ok)⟩
  | .List es pos => (compA r c ks [] es).map fun g => ⟨cLst g.1, fun X F ok => evN_lst (g.2.2 X F ok)⟩
  | .BinOp a op b pos => (binF op).bind fun o => (r.p c ks a).bind fun f => (r.p c ks b).map fun g => ⟨cB o.1 f.1 g.1, fun X F ok => by
      obtain ⟨rr, h1, h2⟩ := o.2 X ok.un
      exact evN_bin h1 h2 (f.2 X F ok) (g.2 X F ok)⟩
  | .UnaryOp .USub a pos => (r.p c ks a).map fun f => ⟨cU negD f.1, fun X F ok => evN_un un_neg negD_ok (f.2 X F ok)⟩
  | .UnaryOp .Not a pos => (r.p c ks a).map fun f => ⟨cNot f.1, fun X F ok => evN_not (f.2 X F ok)⟩
  | .Compare a [op] [b] pos => compCmp r c ks a b pos op
  | .Compare a [op, op'] [b, d] pos => if h : lastMarks [op, op'] [b, d] = false then (cmpF op).bind fun o => (cmpF op').bind fun o' => (r.p c ks a).bind fun f => (r.p c ks b).bind fun g => (r.p c ks d).map fun k => ⟨cCh o.1 o'.1 f.1 g.1 k.1, fun X F ok => by
      obtain ⟨rr, h1, h2⟩ := o.2 X ok.un
      obtain ⟨rr', h1', h2'⟩ := o'.2 X ok.un
      exact evN_chain h1 h2 h1' h2' (f.2 X F ok) (g.2 X F ok) (k.2 X F ok) h⟩ else none
  | .IfExp t a b pos => (r.t c ks t).bind fun h => (r.n c ks a).bind fun f => (r.n c ks b).map fun g => ⟨cIf h.1 f.1 g.1, fun X F ok => evN_if (h.2 X F ok) (f.2 X F ok) (g.2 X F ok)⟩
  | .Call (.Name x p) [] [] pos => compFnN r c ks x p pos []
  | .Call (.Name x p) [a, b] [] pos => if h : x = "isinstance" then h ▸ compIsi r c ks a p pos b else (compBf r c ks x p pos a [b]).orElse fun _ => compFnN r c ks x p pos [a, b]
  | .Call (.Name x p) [a] [] pos => if h : x = "sorted" then h ▸ compSorted r c ks p pos a else (compBf r c ks x p pos a []).orElse fun _ => compFnN r c ks x p pos [a]
  | .Call (.Name x p) (a :: es) [] pos => (compBf r c ks x p pos a es).orElse fun _ => compFnN r c ks x p pos (a :: es)
  | .Subscript e (.Slice none none (some (.UnaryOp .USub (.Constant (.int 1) k p1) p2)) p3) pos => (r.p c ks e).map fun f => ⟨cU revD f.1, fun X F ok => evN_rev (f.2 X F ok)⟩
  | .Subscript e (.Slice lo hi (some (.Constant (.int n) k p1)) p3) pos => if h : n ≠ 0 then (r.p c ks e).bind fun f => (compO r c ks lo).bind fun g => (compO r c ks hi).map fun q => ⟨cStep f.1 g.1 q.1 n, fun X F ok => evN_step h (f.2 X F ok) (g.2 X F ok) (q.2 X F ok)⟩ else none
  | .Subscript e (.Slice lo hi none p2) pos => (r.p c ks e).bind fun f => (compO r c ks lo).bind fun g => (compO r c ks hi).map fun h => ⟨cSl f.1 g.1 h.1, fun X F ok => evN_slice (f.2 X F ok) (g.2 X F ok) (h.2 X F ok)⟩
  | .Call (.Attribute (.Constant (.str a) k p) m apos) [e] [] pos => compMethS r c ks a k p m apos e pos
  | .Dict [] [] pos => some ⟨cC (.dic (T.tk c.N "") []), fun X F ok => (evM_dnew _).toN⟩
  | .DictComp kx vx [⟨tg, iter, ifs, 0⟩] scope pos => (compDcA r c ks (T.tk c.N "") kx vx tg iter ifs scope pos).map fun f => ⟨f.1, fun X F ok => (f.2 X F ok).toN⟩
  | .ListComp elt [⟨tg, .Name x p, ifs, 0⟩] scope pos => if T.dn c.N x = true then compLcD r c ks elt tg x p ifs scope pos else (r.s c ks (.ListComp elt [⟨tg, .Name x p, ifs, 0⟩] scope pos)).map fun f => ⟨f.1, fun X F ok => (f.2 X F ok).toN⟩
  | e => (r.s c ks e).map fun f => ⟨f.1, fun X F ok => (f.2 X F ok).toN⟩
def compBoolE (pos : Pos) : (op : BoolOp) → (es : List Expr) → CE T c ks (.BoolOp op es pos)
  | op, [a] => (r.e c ks a).map fun f => ⟨f.1, fun X F ok => evE_one (f.2 X F ok)⟩
  | .Or, a :: b :: es => (r.e c ks a).bind fun f => (compBoolE pos .Or (b :: es)).map fun g => ⟨cOr f.1 g.1, fun X F ok => evE_or (f.2 X F ok) (g.2 X F ok)⟩
  | .And, a :: b :: es => (r.e c ks a).bind fun f => (compBoolE pos .And (b :: es)).map fun g => ⟨cAnd f.1 g.1, fun X F ok => evE_and (f.2 X F ok) (g.2 X F ok)⟩
  | _, [] => none
def compW (pos : Pos) : (op : BoolOp) → (es : List Expr) → CW T c ks (.BoolOp op es pos)
  | .And, [a] => (r.t c ks a).map fun f => ⟨f.1, fun X F ok => evW_and1 (f.2 X F ok)⟩
  | .Or, [a] => (r.t c ks a).map fun f => ⟨f.1, fun X F ok => evW_or1 (f.2 X F ok)⟩
  | .Or, a :: b :: es => (r.t c ks a).bind fun f => (compW pos .Or (b :: es)).map fun g => ⟨cOrT f.1 g.1, fun X F ok => evW_or (f.2 X F ok) (g.2 X F ok)⟩
  | .And, a :: b :: es => (r.t c ks a).bind fun f => (compW pos .And (b :: es)).map fun g => ⟨cAndT f.1 g.1, fun X F ok => evW_and (f.2 X F ok) (g.2 X F ok)⟩
  | _, [] => none
def toE (e : Expr) : CE T c ks e := (r.n c ks e).map fun f => ⟨f.1, fun X F ok => (f.2 X F ok).toE⟩
/-- min(..) of one thing -/
def compMin (p pos : Pos) (a : Expr) : CE T c ks (.Call (.Name "min" p) [a] [] pos) :=
  if h : bltB T c "min" = true ∧ noStar a = true then (r.p c ks a).map fun f => ⟨cU minDD f.1, fun X F ok => evE_min ok.calm ok.un (bltB_ok ok h.1).1 (bltB_ok ok h.1).2.1 h.2 (f.2 X F ok)⟩ else none
def stepE : (e : Expr) → CE T c ks e
  | .Name x pos => match hi : c.ix x with
    | some i => if h : c.vis x = true ∧ plainName x = true ∧ kd ks i = .F then some ⟨cV i, fun X F ok => evE_var (ok.ix hi) (ok.vis h.1) h.2.2 (plain_d h.2.1) (plain_c h.2.1)⟩ else none
    | none => toE r c ks (.Name x pos)
  | .BoolOp op es pos => compBoolE r c ks pos op es
  | .IfExp t a b pos => (r.t c ks t).bind fun h => (r.e c ks a).bind fun f => (r.e c ks b).map fun g => ⟨cIf h.1 f.1 g.1, fun X F ok => evE_if (h.2 X F ok) (f.2 X F ok) (g.2 X F ok)⟩
  | .Call (.Name x p) [a] [] pos => if h : x = "min" ∧ T.dn c.N "min" = true then h.1 ▸ compMin r c ks p pos a else (compFn r c ks x p pos [a]).orElse fun _ => toE r c ks (.Call (.Name x p) [a] [] pos)
  | .Call (.Name x p) es [] pos => (compFn r c ks x p pos es).orElse fun _ => (compFnV r c ks x p pos es).orElse fun _ => toE r c ks (.Call (.Name x p) es [] pos)
  | .Subscript a b pos => if h : plainIx b = true then (r.p c ks a).bind fun f => (r.p c ks b).map fun g => ⟨cIx f.1 g.1, fun X F ok => evE_idx (xop_units ok).2.2 h (f.2 X F ok) (g.2 X F ok)⟩ else toE r c ks (.Subscript a b pos)
  | e => toE r c ks e
def toPc (e : Expr) : CP T c ks e := (r.e c ks e).map fun f => ⟨f.1, fun X F ok => (f.2 X F ok).toP⟩
def compFnP (x : Str) (pos : Pos) : CP T c ks (.Name x pos) :=
  match hf : T.fns.lookup x with
  | some pk => if h : c.gl x = true ∧ plainName x = true then some ⟨cC (.fn x), fun X F ok => by
      obtain ⟨a, fd, ps, k, h1, h2, h3, h4, h5⟩ := (ok.fns x pk hf).ex
      exact evP_fn (ok.gl h.1) h3 (plain_d h.2)⟩ else none
  | none => none
def stepP : (e : Expr) → CP T c ks e
  | .Name x pos => match hi : c.ix x with
    | some i => if h : c.vis x = true ∧ plainName x = true then some ⟨cV i, fun X F ok => evP_var (ok.ix hi) (ok.vis h.1) (plain_d h.2) (plain_c h.2)⟩ else none
    | none => (compFnP c ks x pos).orElse fun _ => toPc r c ks (.Name x pos)
  | .IfExp t a b pos => (r.t c ks t).bind fun h => (r.p c ks a).bind fun f => (r.p c ks b).map fun g => ⟨cIf h.1 f.1 g.1, fun X F ok => evP_if (h.2 X F ok) (f.2 X F ok) (g.2 X F ok)⟩
  | e => toPc r c ks e
def stepT : (e : Expr) → CT T c ks e
  | .Compare a [op] [b] pos => compCmpT r c ks a b pos op
  | .Compare a [op, op'] [b, d] pos => if h : lastMarks [op, op'] [b, d] = false then (cmpF op).bind fun o => (cmpF op').bind fun o' => (r.p c ks a).bind fun f => (r.p c ks b).bind fun g => (r.p c ks d).map fun k => ⟨cChT o.1 o'.1 f.1 g.1 k.1, fun X F ok => by
      obtain ⟨rr, h1, h2⟩ := o.2 X ok.un
      obtain ⟨rr', h1', h2'⟩ := o'.2 X ok.un
      exact evT_chain h1 h2 h1' h2' (f.2 X F ok) (g.2 X F ok) (k.2 X F ok) h⟩ else none
  | .BoolOp op es pos => (compW r c ks pos op es).map fun f => ⟨f.1, fun X F ok => (f.2 X F ok).toT⟩
  | .UnaryOp .Not a pos => (r.t c ks a).map fun f => ⟨cNotT f.1, fun X F ok => evT_not (f.2 X F ok)⟩
  | e => if h : plainTest e = true then (r.p c ks e).map fun f => ⟨cTr f.1, fun X F ok => evT_truth h (f.2 X F ok)⟩ else none
def ofQ (tg e : Expr) : CI T c ks tg e := (compQ r c ks e).map fun f => ⟨cWalk f.1, fun X F ok => evI_of (f.2 X F ok)⟩
def compRng1 (tg a : Expr) (p pos : Pos) : CI T c ks tg (.Call (.Name "range" p) [a] [] pos) :=
  if h : bltB T c "range" = true ∧ noStar a = true then (r.p c ks a).map fun f => ⟨cRng1 f.1, fun X F ok => evI_range1 (bltB_ok ok h.1).1 (bltB_ok ok h.1).2.1 h.2 (f.2 X F ok)⟩ else none
def compRng2 (tg a b : Expr) (p pos : Pos) : CI T c ks tg (.Call (.Name "range" p) [a, b] [] pos) :=
  if h : bltB T c "range" = true ∧ noStar a = true ∧ noStar b = true then (r.p c ks a).bind fun f => (r.p c ks b).map fun g => ⟨cRng2 f.1 g.1, fun X F ok => evI_range2 (bltB_ok ok h.1).1 (bltB_ok ok h.1).2.1 h.2.1 h.2.2 (f.2 X F ok) (g.2 X F ok)⟩ else none
def compEnum (a : Expr) (p pos : Pos) : (tg : Expr) → CI T c ks tg (.Call (.Name "enumerate" p) [a] [] pos)
  | .Tuple ts k tp => if h : bltB T c "enumerate" = true ∧ noStar a = true then (compQ r c ks a).map fun f => ⟨cEnum f.1, fun X F ok => evI_enum (bltB_ok ok h.1).1 (bltB_ok ok h.1).2.1 h.2 (f.2 X F ok)⟩ else none
  | _ => none
def compZip (a b : Expr) (p pos : Pos) : (tg : Expr) → CI T c ks tg (.Call (.Name "zip" p) [a, b] [] pos)
  | .Tuple ts k tp => if h : bltB T c "zip" = true ∧ noStar a = true ∧ noStar b = true then (compQ r c ks a).bind fun f => (compQ r c ks b).map fun g => ⟨cZip f.1 g.1, fun X F ok => evI_zip (bltB_ok ok h.1).1 (bltB_ok ok h.1).2.1 h.2.1 h.2.2 (f.2 X F ok) (g.2 X F ok)⟩ else none
  | _ => none
def stepI (tg : Expr) : (e : Expr) → CI T c ks tg e
  | .Call (.Name x p) [a] [] pos => if h : x = "range" then h ▸ compRng1 r c ks tg a p pos else if h : x = "enumerate" then h ▸ compEnum r c ks a p pos tg else ofQ r c ks tg (.Call (.Name x p) [a] [] pos)
  | .Call (.Name x p) [a, b] [] pos => if h : x = "range" then h ▸ compRng2 r c ks tg a b p pos else if h : x = "zip" then h ▸ compZip r c ks a b p pos tg else ofQ r c ks tg (.Call (.Name x p) [a, b] [] pos)
  | e => ofQ r c ks tg e
end
noncomputable def comp (T : Tab) : Nat → Rec T
  | 0 => ⟨fun _ _ _ => none, fun _ _ _ => none, fun _ _ _ => none, fun _ _ _ => none, fun _ _ _ => none, fun _ _ _ _ => none⟩
  | n + 1 => ⟨stepN (comp T n), stepS (comp T n), stepE (comp T n), stepP (comp T n), stepT (comp T n), stepI (comp T n)⟩
end RE
/-! RE19: statements, with their proofs. -/
namespace RE
open PySem PySem.Spec PyProof.Rows L2

abbrev CS (T : Tab) (c : SC) (ks : Ks) (st : Stmt) := Option { f : SS // ∀ X F, XOk T c X F → EvS X ks F st f }
abbrev CSs (T : Tab) (c : SC) (ks : Ks) (sts : List Stmt) := Option { f : SS // ∀ X F, XOk T c X F → EvSs X ks F sts f }
theorem swap_tup {ts : List Expr} {k : Nat} {p : Pos} (e : Expr) (line : Nat) (env : PySem.Env) : swapsWithSole [.Tuple ts k p] e line env = pure false := by
  have h : ∀ x q, Expr.Tuple ts k p ≠ .Name x q := fun _ _ z => nomatch z
  exact swap_other h e line env
theorem swap_sub {a b : Expr} {p : Pos} (e : Expr) (line : Nat) (env : PySem.Env) : swapsWithSole [.Subscript a b p] e line env = pure false := by
  have h : ∀ x q, Expr.Subscript a b p ≠ .Name x q := fun _ _ z => nomatch z
  exact swap_other h e line env
section
variable {T : Tab} (r : Rec T) (c : SC) (ks : Ks)
theorem EvNS.M {X : Cx} {ks : Ks} {F : Fn} {e : Expr} {f : SE} (h : EvN X ks F e f) : EvM X ks F e (cND f) := h.toM
/-- a value for an own slot -/
def compM (x : Str) : (e : Expr) → Option { f : SE // ∀ X F, XOk T c X F → EvM X ks F e f }
  | .Dict [] [] pos => some ⟨cC (.dic (T.tk c.N x) []), fun X F ok => evM_dnew _⟩
  | .DictComp kx vx [⟨tg, iter, ifs, 0⟩] scope pos => compDcA r c ks (T.tk c.N x) kx vx tg iter ifs scope pos
  | e => (r.n c ks e).map fun f => ⟨cND f.1, fun X F ok => (f.2 X F ok).toM⟩
def compV : (is : List Nat) → (es : List Expr) → Option { g : SA // ∀ X F, XOk T c X F → EvV X ks F is es g }
  | [], [] => some ⟨cNil, fun X F ok => evV_nil⟩
  | i :: is, e :: es => if hs : noStar e = true then
      if hk : kd ks i = .F then (r.e c ks e).bind fun f => (compV is es).map fun g => ⟨cCons f.1 g.1, fun X F ok => evV_consF hk hs (f.2 X F ok) (g.2 X F ok)⟩
      else if hk : kd ks i = .M then (compM r c ks (c.N.getD i "") e).bind fun f => (compV is es).map fun g => ⟨cCons f.1 g.1, fun X F ok => evV_consM hk hs (f.2 X F ok) (g.2 X F ok)⟩
      else none
    else none
  | _, _ => none
/-- a target, a value, in the ordinary way -/
def compAsg (tg e : Expr) (pos : Pos) : CS T c ks (.Assign [tg] e pos) :=
  if hn : noStar tg = true then (compG (T := T) c ks 20 tg).bind fun g => (r.e c ks e).bind fun f =>
    match tg with
    | .Name x p => if h : swB c e x p = false then some ⟨sAsg f.1 g.1.2, fun X F ok => evS_asg rfl (f.2 X F ok) (g.2.1 X F ok) g.2.2.1 g.2.2.2 (by show swapsWith e (some (.Name x p)) pos.line X.env = _; rw [swap_name ok, h]) (sw_name e X.env)⟩ else none
    | .Tuple ts k p => match e with
      | .Tuple vs k2 p2 => if h : swS c ts vs = some none then some ⟨sAsg f.1 g.1.2, fun X F ok => evS_asg rfl (f.2 X F ok) (g.2.1 X F ok) g.2.2.1 g.2.2.2 (swap_tup _ _ _) (swS_ok ok h)⟩ else none
      | e => if h : notTup e = true then some ⟨sAsg f.1 g.1.2, fun X F ok => evS_asg rfl (f.2 X F ok) (g.2.1 X F ok) g.2.2.1 g.2.2.2 (swap_tup _ _ _) (sw_tup h X.env)⟩ else none
    | _ => none
  else none
/-- x = e -/
def compName (x : Str) (p pos : Pos) (e : Expr) : CS T c ks (.Assign [.Name x p] e pos) :=
  match hi : c.ix x with
  | none => none
  | some i =>
    if h : c.loc x = true ∧ c.sto x = true ∧ c.vis x = true ∧ plainName x = true then
      if sw : swB c e x p = true ∧ c.scope.names.lookup x = some .local then
        if hk : kd ks i = .F then (r.s c ks e).map fun f => ⟨sAsg f.1 (gN i), fun X F ok => evS_swF (ok.ix hi) (by rw [ok.sc]; exact sw.2) hk (by rw [swap_name ok, sw.1]) (f.2 X F ok)⟩
        else if hk : kd ks i = .M then
          match e with
          | .DictComp kx vx [⟨tg, iter, ifs, 0⟩] scope dp => (compDcS r c ks (T.tk c.N x) kx vx tg iter ifs scope dp).map fun f => ⟨sSetM i f.1, fun X F ok => evS_swMD (ok.ix hi) (by rw [ok.sc]; exact sw.2) hk (by rw [swap_name ok, sw.1]) (f.2 X F ok)⟩
          | e => (r.s c ks e).map fun f => ⟨sSetM i (cND f.1), fun X F ok => evS_swM (ok.ix hi) (by rw [ok.sc]; exact sw.2) hk (by rw [swap_name ok, sw.1]) (f.2 X F ok)⟩
        else none
      else if hk : kd ks i = .M then
        match e with
        | .IfExp t (.Name y p2) b p3 => if hy : y = x then (r.t c ks t).bind fun g => (r.n c ks b).map fun f => ⟨sSetIf i g.1 (cND f.1), fun X F ok => by
              subst hy
              exact evS_setIf ok.nodup (ok.ix hi) (ok.loc h.1) (ok.vis h.2.2.1) (plain_d h.2.2.2) (plain_c h.2.2.2) hk (g.2 X F ok) (f.2 X F ok).toM (ok.sto y h.2.1)⟩ else none
        | e => if hs : swB c e x p = false then (compM r c ks x e).map fun f => ⟨sSetM i f.1, fun X F ok => evS_setM ok.nodup (ok.ix hi) (ok.loc h.1) hk (f.2 X F ok) (by rw [swap_name ok, hs]) (ok.sto x h.2.1)⟩ else none
      else match e with
        | .Call (.Attribute (.Name y xp) a ap) [] [] cp => match hj : c.ix y with
          | some j => if h2 : a = "pop" ∧ c.vis y = true ∧ plainName y = true ∧ kd ks j = .M ∧ kd ks i = .F ∧ (ap.endLine == cp.line) = true then some ⟨sPop i j, fun X F ok => by
              obtain ⟨rfl, h3, h4, h5, h6, h7⟩ := h2
              exact evS_pop ok.nodup (ok.ix hj) (ok.vis h3) (plain_d h4) (plain_c h4) h5 (ok.ix hi) (ok.loc h.1) h6 (ok.sto x h.2.1) rfl h7⟩ else none
          | none => none
        | e => compAsg r c ks (.Name x p) e pos
    else none
def compTup (ts : List Expr) (k : Nat) (p pos : Pos) (e : Expr) : CS T c ks (.Assign [.Tuple ts k p] e pos) :=
  match ts, e with
  | [.Name x px, .Name y py], .Tuple [a, b] k2 pt2 => match hi : c.ix x, hj : c.ix y with
    | some i, some j => if h : i ≠ j ∧ c.scope.names.lookup x = some .local ∧ c.scope.names.lookup y = some .local ∧ (∀ l ∈ [i, j], kd ks l = .F ∨ kd ks l = .M) ∧ swS c [.Name x px, .Name y py] [a, b] = some (some [x, y]) then
        (compV r c ks [i, j] [a, b]).map fun g => ⟨sPar [i, j] g.1, fun X F ok => evS_par2 ok.calm ok.nodup (ok.ix hi) (ok.ix hj) h.1 (by rw [ok.sc]; exact h.2.1) (by rw [ok.sc]; exact h.2.2.1) h.2.2.2.1 (g.2 X F ok) (swS_ok ok h.2.2.2.2)⟩
      else compAsg r c ks (.Tuple [.Name x px, .Name y py] k p) (.Tuple [a, b] k2 pt2) pos
    | _, _ => compAsg r c ks (.Tuple [.Name x px, .Name y py] k p) (.Tuple [a, b] k2 pt2) pos
  | [.Name x px, .Name y py, .Name z pz], .Tuple [a, b, d] k2 pt2 => match hi : c.ix x, hj : c.ix y, hl : c.ix z with
    | some i, some j, some l => if h : i ≠ j ∧ i ≠ l ∧ j ≠ l ∧ c.scope.names.lookup x = some .local ∧ c.scope.names.lookup y = some .local ∧ c.scope.names.lookup z = some .local ∧ (∀ n ∈ [i, j, l], kd ks n = .F ∨ kd ks n = .M) ∧ swS c [.Name x px, .Name y py, .Name z pz] [a, b, d] = some (some [x, y, z]) then
        (compV r c ks [i, j, l] [a, b, d]).map fun g => ⟨sPar [i, j, l] g.1, fun X F ok => evS_par3 ok.calm ok.nodup (ok.ix hi) (ok.ix hj) (ok.ix hl) h.1 h.2.1 h.2.2.1 (by rw [ok.sc]; exact h.2.2.2.1) (by rw [ok.sc]; exact h.2.2.2.2.1) (by rw [ok.sc]; exact h.2.2.2.2.2.1) h.2.2.2.2.2.2.1 (g.2 X F ok) (swS_ok ok h.2.2.2.2.2.2.2)⟩
      else compAsg r c ks (.Tuple [.Name x px, .Name y py, .Name z pz] k p) (.Tuple [a, b, d] k2 pt2) pos
    | _, _, _ => compAsg r c ks (.Tuple [.Name x px, .Name y py, .Name z pz] k p) (.Tuple [a, b, d] k2 pt2) pos
  | ts, e => compAsg r c ks (.Tuple ts k p) e pos
def compPut (x : Str) (xp sp pos : Pos) (i e : Expr) : CS T c ks (.Assign [.Subscript (.Name x xp) i sp] e pos) :=
  match hj : c.ix x with
  | some j => if h : c.vis x = true ∧ plainName x = true ∧ kd ks j = .M ∧ plainKey i = true then (r.e c ks e).bind fun g => (r.p c ks i).map fun f => ⟨sPut j f.1 g.1, fun X F ok => evS_put (xop_units ok).2.2 (ok.ix hj) (ok.vis h.1) (plain_d h.2.1) (plain_c h.2.1) h.2.2.1 h.2.2.2 (g.2 X F ok) (f.2 X F ok) (swap_sub _ _ _) (sw_sub _ _)⟩ else none
  | none => none
def compApp (x a : Str) (xp ap cp pos : Pos) (e : Expr) : CS T c ks (.Expr (.Call (.Attribute (.Name x xp) a ap) [e] [] cp) pos) :=
  match hj : c.ix x with
  | some j => if h : a = "append" ∧ c.vis x = true ∧ plainName x = true ∧ kd ks j = .M ∧ noStar e = true ∧ (ap.endLine == cp.line) = true then (r.e c ks e).map fun f => ⟨sApp j f.1, fun X F ok => by
      obtain ⟨rfl, h1, h2, h3, h4, h5⟩ := h
      exact evS_app (ok.ix hj) (ok.vis h1) (plain_d h2) (plain_c h2) h3 h4 (f.2 X F ok) rfl h5⟩ else none
  | none => none
def compUpd (x a : Str) (xp ap cp pos : Pos) : (e : Expr) → CS T c ks (.Expr (.Call (.Attribute (.Name x xp) a ap) [e] [] cp) pos)
  | .Name y yp => match hj : c.ix x, hi : c.ix y with
    | some j, some i => if h : a = "update" ∧ c.vis x = true ∧ plainName x = true ∧ kd ks j = .M ∧ noStar (.Name y yp) = true ∧ (ap.endLine == cp.line) = true ∧ c.vis y = true ∧ plainName y = true ∧ kd ks i = .M ∧ j ≠ i then some ⟨sUpd j (cV i), fun X F ok => by
        obtain ⟨rfl, h1, h2, h3, h4, h5, h6, h7, h8, h9⟩ := h
        exact evS_updV (ok.ix hj) (ok.vis h1) (plain_d h2) (plain_c h2) h3 (ok.ix hi) (ok.vis h6) (plain_d h7) (plain_c h7) h8 h9 h4 h5⟩ else none
    | _, _ => none
  | e => match hj : c.ix x with
    | some j => if h : a = "update" ∧ c.vis x = true ∧ plainName x = true ∧ kd ks j = .M ∧ noStar e = true ∧ (ap.endLine == cp.line) = true then (r.e c ks e).map fun f => ⟨sUpd j f.1, fun X F ok => by
        obtain ⟨rfl, h1, h2, h3, h4, h5⟩ := h
        exact evS_upd (ok.ix hj) (ok.vis h1) (plain_d h2) (plain_c h2) h3 h4 (f.2 X F ok) h5⟩ else none
    | none => none
/-- what a def gives back, new -/
def compR : (e : Expr) → Option { f : SE // ∀ X F, XOk T c X F → EvR X ks F e f }
  | .Name x pos => match hi : c.ix x with
    | some i => if h : c.vis x = true ∧ plainName x = true ∧ kd ks i = .M then some ⟨cV i, fun X F ok => evR_var (ok.ix hi) (ok.vis h.1) h.2.2 (plain_d h.2.1) (plain_c h.2.1)⟩ else none
    | none => none
  | .IfExp t a b pos => (r.t c (frz ks) t).bind fun h => (compR a).bind fun f => (compR b).map fun g => ⟨cIf h.1 f.1 g.1, fun X F ok => evR_if (h.2 X F ok) (f.2 X F ok) (g.2 X F ok)⟩
  | e => (r.n c (frz ks) e).map fun f => ⟨f.1, fun X F ok => (f.2 X F ok).toR⟩
def compSimple : (st : Stmt) → CS T c ks st
  | .Assign [.Name x p] e pos => compName r c ks x p pos e
  | .Assign [.Tuple ts k p] e pos => compTup r c ks ts k p pos e
  | .Assign [.Subscript (.Name x xp) i sp] e pos => compPut r c ks x xp sp pos i e
  | .AugAssign (.Name x p) .Add e pos => match hi : c.ix x with
    | some i => if h : c.loc x = true ∧ c.sto x = true ∧ kd ks i = .F then (r.p c ks e).map fun f => ⟨sAug i f.1, fun X F ok => evS_aug ok.nodup (ok.ix hi) (ok.loc h.1) h.2.2 (f.2 X F ok) (ok.sto x h.2.1)⟩ else none
    | none => none
  | .Expr (.Call (.Attribute (.Name x xp) a ap) [e] [] cp) pos => (compApp r c ks x a xp ap cp pos e).orElse fun _ => compUpd r c ks x a xp ap cp pos e
  | .Expr (.Constant (.str s) j p) pos => some ⟨sNil, fun X F ok => evS_doc⟩
  | .Return (some e) pos => if c.nw = true then (compR r c ks e).map fun f => ⟨sRetT f.1, fun X F ok => evS_retR (f.2 X F ok)⟩ else (r.e c (frz ks) e).map fun f => ⟨sRet f.1, fun X F ok => evS_ret (f.2 X F ok)⟩
  | .Return none pos => some ⟨sRetN, fun X F ok => evS_retN⟩
  | .Pass pos => some ⟨sNil, fun X F ok => evS_pass⟩
  | _ => none
end
section
variable {T : Tab} (r : Rec T) (c : SC) (ks : Ks)
/-- x = [list(..) for ..] and x[i][j] = e behind it? -/
def nestP : Stmt → Stmt → Bool
  | .Assign [.Name _ _] (.ListComp _ [⟨_, _, [], 0⟩] _ _) _, .Assign [.Subscript (.Subscript (.Name _ _) _ _) _ _] _ _ => true
  | _, _ => false
def compNest : (st st2 : Stmt) → (rest : List Stmt) → { f : SS // ∀ X F, XOk T c X F → EvSs X ks F rest f } → CSs T c ks (st :: st2 :: rest)
  | .Assign [.Name x p0] (.ListComp elt [⟨tg, iter, [], 0⟩] scope lp) pos1, .Assign [.Subscript (.Subscript (.Name y p1) i1 p2) i2 p3] e pos2, rest, g =>
    if hy : y = x then match hi : c.ix x with
      | some i => if h : c.vis x = true ∧ plainName x = true ∧ kd ks i = .M ∧ swB c (.ListComp elt [⟨tg, iter, [], 0⟩] scope lp) x p0 = true ∧ c.scope.names.lookup x = some .local ∧ plainIx i1 = true ∧ plainKey i2 = true then
          (compNL r c ks elt tg iter scope lp).bind fun f => (r.e c ks e).bind fun ge => (r.p c ks i1).bind fun f1 => (r.p c ks i2).map fun f2 => ⟨sNest i f.1 f1.1 f2.1 ge.1 g.1, fun X F ok => by
            subst hy
            exact evSs_nest ok.nodup (ok.ix hi) (ok.vis h.1) (plain_d h.2.1) (plain_c h.2.1) h.2.2.1 (by rw [ok.sc]; exact h.2.2.2.2.1) (by rw [swap_name ok, h.2.2.2.1]) (f.2 X F ok) (ge.2 X F ok) (f1.2 X F ok) (f2.2 X F ok) h.2.2.2.2.2.1 h.2.2.2.2.2.2 (swap_sub _ _ _) (sw_sub _ _) (g.2 X F ok)⟩
        else none
      | none => none
    else none
  | _, _, _, _ => none
end
theorem dn_iter {x : Str} {p : Pos} (env : PySem.Env) : ∀ y, foldedSetIterable (.Name x p) env y = pure y := fun _ => rfl
mutual
noncomputable def compSt {T : Tab} (r : Rec T) (c : SC) : Nat → (ks : Ks) → (st : Stmt) → CS T c ks st
  | 0, _, _ => none
  | n + 1, ks, .If t a b pos => (r.t c ks t).bind fun h => (compSs r c n ks a).bind fun f => (compSs r c n ks b).map fun g => ⟨sIf h.1 f.1 g.1, fun X F ok => evS_if (h.2 X F ok) (f.2 X F ok) (g.2 X F ok)⟩
  | n + 1, ks, .While t b [] pos => (r.t c ks t).bind fun h => (compSs r c n ks b).map fun f => ⟨sWhile h.1 f.1, fun X F ok => evS_while ok.own (h.2 X F ok) (f.2 X F ok)⟩
  | n + 1, ks, .For tg (.Name x p) b [] pos =>
    if T.dn c.N x = true then
      match hi : c.ix x with
      | some i => if h : c.vis x = true ∧ plainName x = true ∧ (kd ks i = .F ∨ kd ks i = .B) then
          (compG (T := T) c ks 20 tg).bind fun g => (compSs r c n ks b).map fun f =>
            ⟨sFor (cKeys i) g.1.2 f.1, fun X F ok => evS_forD ok.own ok.calm (ok.ix hi) (ok.vis h.1) (plain_d h.2.1) (plain_c h.2.1) h.2.2 (g.2.1 X F ok) g.2.2.1 g.2.2.2 (f.2 X F ok) (dn_iter X.env)⟩
        else none
      | none => none
    else
      (r.i c (demote (slotsOf c (.Name x p)) 0 ks) tg (.Name x p)).bind fun fi => (compG (T := T) c (demote (slotsOf c (.Name x p)) 0 ks) 20 tg).bind fun g => (compSs r c n (demote (slotsOf c (.Name x p)) 0 ks) b).map fun f =>
        ⟨sFor fi.1 g.1.2 f.1, fun X F ok => evS_for ok.own ok.calm (dem_demote _ ks 0) (fi.2 X F ok) (g.2.1 X F ok) g.2.2.1 g.2.2.2 (f.2 X F ok) (dn_iter X.env)⟩
  | n + 1, ks, .For tg iter b [] pos =>
    if h : plainIter iter = true then
      (r.i c (demote (slotsOf c iter) 0 ks) tg iter).bind fun fi => (compG (T := T) c (demote (slotsOf c iter) 0 ks) 20 tg).bind fun g => (compSs r c n (demote (slotsOf c iter) 0 ks) b).map fun f =>
        ⟨sFor fi.1 g.1.2 f.1, fun X F ok => evS_for ok.own ok.calm (dem_demote _ ks 0) (fi.2 X F ok) (g.2.1 X F ok) g.2.2.1 g.2.2.2 (f.2 X F ok) (plainIter_ok h X.env)⟩
    else none
  | n + 1, ks, st => compSimple r c ks st
noncomputable def compSs {T : Tab} (r : Rec T) (c : SC) : Nat → (ks : Ks) → (sts : List Stmt) → CSs T c ks sts
  | 0, _, _ => none
  | n + 1, ks, [] => some ⟨sNil, fun X F ok => evSs_nil⟩
  | n + 1, ks, [st] => (compSt r c n ks st).bind fun f => (compSs r c n ks []).map fun g => ⟨sSeq f.1 g.1, fun X F ok => evSs_cons (f.2 X F ok) (g.2 X F ok)⟩
  | n + 1, ks, st :: st2 :: sts => if nestP st st2 = true then (compSs r c n ks sts).bind fun g => compNest r c ks st st2 sts g
    else (compSt r c n ks st).bind fun f => (compSs r c n ks (st2 :: sts)).map fun g => ⟨sSeq f.1 g.1, fun X F ok => evSs_cons (f.2 X F ok) (g.2 X F ok)⟩
end
/-- a def's body -/
noncomputable def compB (T : Tab) (N : List Str) (ks : Ks) (nw : Bool) (sc : Scope) (body : List Stmt) : CSs T ⟨N, sc, true, [], nw⟩ ks body := compSs (comp T 40) ⟨N, sc, true, [], nw⟩ 60 ks body
end RE
/-! RE20: all defs of a text at once; the law's end. -/
namespace RE
open PySem PySem.Spec PyProof.Rows L2

/-- a def of the text with its function of trees -/
structure DRow (Tb : Tab) where
  x : Str
  params : Arguments
  body : List Stmt
  sc : Scope
  N : List Str
  ps : List Str
  d : DefS
  S : FnScope N ps sc
  np : d.np = ps.length
  nn : d.nn = N.length
  par : okPar d.ks d.np = true
  len : (d.ks.take d.np).length = d.np
  bnd : ∀ (kV doc pm : Value) (an : Option Addr) (cdv ct : Value) (us : List Value), us.length = ps.length → bindArgs (PySem.W.fnOf x x params body sc .none kV doc pm an cdv ct) ⟨us, []⟩ = pure (ps.zip us)
  cmp : (compB Tb N d.ks d.nw sc body).map Subtype.val = some d.body
variable {Tb : Tab}
def DT (rows : List (DRow Tb)) (x : Str) : Option DefS := (rows.find? fun r => decide (r.x = x)).map (·.d)
def fnsOf (rows : List (DRow Tb)) : List (Str × Sig) := rows.map fun r => (r.x, ⟨r.d.ks.take r.d.np, r.d.nw⟩)
theorem fns_find {rows : List (DRow Tb)} {x : Str} {pk : Sig} (h : (fnsOf rows).lookup x = some pk) : ∃ r ∈ rows, r.x = x ∧ pk = ⟨r.d.ks.take r.d.np, r.d.nw⟩ ∧ DT rows x = some r.d := by
  unfold fnsOf at h
  unfold DT
  induction rows with
  | nil => cases h
  | cons r rows ih =>
    rw [List.map_cons, List.lookup_cons] at h
    by_cases e : r.x = x
    · subst e
      simp only [beq_self_eq_true] at h
      cases h
      exact ⟨r, List.mem_cons_self, rfl, rfl, by rw [List.find?_cons_of_pos (by simp)]; rfl⟩
    · have e2 : (x == r.x) = false := beq_false_of_ne fun z => e z.symm
      simp only [e2] at h
      obtain ⟨q, hq, h1, h2, h3⟩ := ih h
      exact ⟨q, List.mem_cons_of_mem _ hq, h1, h2, by rw [List.find?_cons_of_neg (by simpa using e)]; exact h3⟩
theorem comp_ok {T : Tab} {N : List Str} {ks : Ks} {nw : Bool} {sc : Scope} {body : List Stmt} {b : SS} (h : (compB T N ks nw sc body).map Subtype.val = some b) {X : Cx} {F : Fn} (ok : XOk T ⟨N, sc, true, [], nw⟩ X F) : EvSs X ks F body b := by
  obtain ⟨f, _, rfl⟩ := Option.map_eq_some_iff.mp h
  exact f.2 X F ok
theorem all_ok {P : Program} {w : World} {K : PySem.W.Frag} {mg : Str → Option Value} {base : Heap} {rows : List (DRow Tb)} (hf : Tb.fns = fnsOf rows)
    (hd : ∀ r ∈ rows, ∃ f fd, FunD K r.x r.x r.params r.body r.sc [] [] f fd ∧ mg r.x = some (.ref f)) (hg : ∀ x d, Tb.glb.lookup x = some d → ∃ v u, constV d = some v ∧ mg x = some u ∧ RelV v u) (hb : ∀ x, x ∈ Tb.blt → mg x = none) :
    ∀ n x pk, Tb.fns.lookup x = some pk → ∃ f fd ps, FnOk P w K mg base CX0 n f fd ps (spF mg pk (lvl (DT rows) n) x) ∧ mg x = some (.ref f) ∧ PySem.W.keepIn K (.ref f) = true ∧ Binds K fd ps [] := by
  intro n
  induction n with
  | zero =>
    intro x pk e
    rw [hf] at e
    obtain ⟨r, hr, rfl, rfl, hx⟩ := fns_find e
    obtain ⟨f, fd, F, hm⟩ := hd r hr
    exact ⟨f, fd, r.ps, fnOk_none fun _ => rfl, hm, F.kp, F.bindsN r.bnd⟩
  | succ n ih =>
    intro x pk e
    rw [hf] at e
    obtain ⟨r, hr, rfl, rfl, hx⟩ := fns_find e
    obtain ⟨f, fd, F, hm⟩ := hd r hr
    refine ⟨f, fd, r.ps, fnOk_succ hx F r.S r.np r.nn r.par r.len fun cdv A outer s H E hroom => ?_, hm, F.kp, F.bindsN r.bnd⟩
    refine comp_ok r.cmp ?_
    refine ⟨rfl, r.S.nd, rfl, rfl, PassesOwn.never, ?_, r.S.kind, fun _ _ => .inl rfl, fun g pk e2 => ?_, hg, hb⟩
    · have := hroom.un
      show (A.deeper _).units + 128 < cLine
      omega
    · obtain ⟨f2, fd2, ps2, h1, h2, h3, h4⟩ := ih g pk e2
      exact ⟨f2, fd2, ps2, n, h1, hroom, h2, h3, h4⟩

theorem glb_all {l : List (Str × D)} {mg : Str → Option Value} (h : ∀ p ∈ l, ∃ v u, constV p.2 = some v ∧ mg p.1 = some u ∧ RelV v u) : ∀ x d, l.lookup x = some d → ∃ v u, constV d = some v ∧ mg x = some u ∧ RelV v u := fun x d e => h (x, d) (PySem.mem_of_lookup e)
theorem law_fn {P : Program} {w : World} {K : PySem.W.Frag} {mg : Str → Option Value} {base : Heap} {rows : List (DRow Tb)} {r : DRow Tb} {f : Addr} {fd : FuncData} {n : Nat} {pk : Sig} {ps : List Str} (hf : Tb.fns = fnsOf rows)
    (hd : ∀ r ∈ rows, ∃ f fd, FunD K r.x r.x r.params r.body r.sc [] [] f fd ∧ mg r.x = some (.ref f)) (hg : ∀ x d, Tb.glb.lookup x = some d → ∃ v u, constV d = some v ∧ mg x = some u ∧ RelV v u) (hb : ∀ x, x ∈ Tb.blt → mg x = none)
    (hl : Tb.fns.lookup r.x = some pk ∧ DT rows r.x = some r.d ∧ pk = ⟨r.d.ks.take r.d.np, r.d.nw⟩ ∧ ps = r.ps) (F : FunD K r.x r.x r.params r.body r.sc [] [] f fd) :
    FnOk P w K mg base CX0 n f fd ps (spF mg pk (lvl (DT rows) n) r.x) := by
  obtain ⟨h1, h2, rfl, rfl⟩ := hl
  cases n with
  | zero => exact fnOk_none fun _ => rfl
  | succ n =>
    refine fnOk_succ h2 F r.S r.np r.nn r.par r.len fun cdv A outer s H E hroom => ?_
    refine comp_ok r.cmp ?_
    refine ⟨rfl, r.S.nd, rfl, rfl, PassesOwn.never, ?_, r.S.kind, fun _ _ => .inl rfl, fun g pk e2 => ?_, hg, hb⟩
    · have := hroom.un
      show (A.deeper _).units + 128 < cLine
      omega
    · obtain ⟨f2, fd2, ps2, h1, h2, h3, h4⟩ := all_ok (P := P) (w := w) (base := base) hf hd hg hb n g pk e2
      exact ⟨f2, fd2, ps2, n, h1, hroom, h2, h3, h4⟩

/-! ### only the defs and their code are taken as known -/
def passO (o : Obj) : Bool := match o.data with
  | .func _ => true
  | .fields _ => true
  | _ => false
open Classical in
noncomputable def filt (K : PySem.W.Frag) : PySem.W.Frag := K.filter fun q => decide (passO q.2 = true ∧ K.lookup q.1 = some q.2)
theorem mem_look {l : List (Addr × Obj)} {a : Addr} {o : Obj} (h : l.lookup a = some o) : (a, o) ∈ l := by
  induction l with
  | nil => cases h
  | cons q l ih =>
    obtain ⟨b, x⟩ := q
    rw [List.lookup_cons] at h
    cases hb : a == b with
    | true =>
      rw [hb] at h
      cases h
      have : a = b := by simpa using hb
      rw [this]
      exact List.mem_cons_self
    | false =>
      rw [hb] at h
      exact List.mem_cons_of_mem _ (ih h)
open Classical in
theorem filt_some {K : PySem.W.Frag} {a : Addr} {o : Obj} (h : (filt K).lookup a = some o) : passO o = true ∧ K.lookup a = some o := by
  have m := mem_look h
  unfold filt at m
  have := (List.mem_filter.mp m).2
  exact of_decide_eq_true this
open Classical in
theorem filt_of {K : PySem.W.Frag} {a : Addr} {o : Obj} (h : K.lookup a = some o) (p : passO o = true) : (filt K).lookup a = some o := by
  have m : (a, o) ∈ filt K := List.mem_filter.mpr ⟨mem_look h, decide_eq_true ⟨p, h⟩⟩
  cases e : (filt K).lookup a with
  | none =>
    exfalso
    have : ∀ l : List (Addr × Obj), (a, o) ∈ l → l.lookup a ≠ none := by
      intro l
      induction l with
      | nil => intro z; cases z
      | cons q l ih =>
        intro z
        obtain ⟨b, x⟩ := q
        rw [List.lookup_cons]
        cases hb : a == b with
        | true => intro y; cases y
        | false =>
          rcases List.mem_cons.mp z with y | y
          · cases y; simp at hb
          · exact ih y
    exact this _ m e
  | some o' =>
    have := (filt_some e).2
    rw [h] at this
    rw [this]
theorem filt_in {K : PySem.W.Frag} {h : Heap} (X : K.In h) : (filt K).In h := fun a o e => X a o (filt_some e).2
theorem FunD.filt {K : PySem.W.Frag} {x q : Str} {params : Arguments} {body : List Stmt} {sc : Scope} {f : Addr} {fd : FuncData} (F : FunD K x q params body sc [] [] f fd) : FunD (filt K) x q params body sc [] [] f fd := by
  obtain ⟨⟨oc, od, dV, kV, doc, pm, an, cdv, ct, osl, rfl, lk, hcd, hD, hK⟩, kp⟩ := F
  have lk' := filt_of lk rfl
  refine ⟨⟨oc, od, dV, kV, doc, pm, an, cdv, ct, osl, rfl, lk', ?_, ?_, .inl rfl⟩, ?_⟩
  · unfold PySem.W.codeIn at hcd ⊢
    cases cdv with
    | ref c =>
      simp only at hcd ⊢
      cases e : K.lookup c with
      | none => rw [e] at hcd; cases hcd
      | some o =>
        rw [e] at hcd
        obtain ⟨cls, dict, data, slots⟩ := o
        cases data <;> simp only at hcd <;> first | (cases hcd; done) | skip
        rw [filt_of e rfl]
        exact hcd
    | _ => cases hcd
  · rcases hD with ⟨h1, h2⟩ | ⟨h1, _⟩
    · exact .inl ⟨h1, h2⟩
    · exact absurd rfl h1
  · unfold PySem.W.keepIn
    simp only
    rw [lk']
theorem scr_rep {K : PySem.W.Frag} {H : Hp} {a : Addr} {ns : List Int} (ho : Only H) (hs : SqL (filt K) H a (ns.map V.int)) : Rep (fun _ => True) H (.scr ns) (.ref a) := by
  simp only [Rep]
  rcases hs with (h | ⟨o, h⟩) | ⟨o, its, n, h1, _, _, h2, _⟩
  · rcases ho a with z | ⟨ob, xs, z⟩ <;> (rw [h] at z; cases z)
  · exact ⟨a, o, rfl, h⟩
  · have := (filt_some h1).1
    unfold passO at this
    rw [h2] at this
    cases this
/-- the law's promise, at the end -/
theorem law_sp {K : PySem.W.Frag} {mg : Str → Option Value} {F : Fn} {H : Hp} {a : Addr} {ns : List Int} {f : Str} {E : XK} (ho : Only H) (hs : SqL (filt K) H a (ns.map V.int)) (h : F f [.scr ns] = some (.bl true)) : spF mg ⟨[.F], false⟩ F f [.ref a] H (fun v _ => v = .bl true) E :=
  ⟨fun _ => True, [.scr ns], .bl true, fun _ _ => trivial, ⟨.ref a, [], rfl, scr_rep ho hs, rfl⟩, rfl, h, fun v H' s r _ => by simpa only [Rep] using r⟩
/-- a def's end -/
def fin (nw : Bool) : Res → Option D
  | .rt b v => if (nw && !b) = true then none else some v
  | .nx _ => some .non
end RE
namespace L
open PySem PySem.Spec PyProof.Rows L2 RE
abbrev rw0 : PySem.W.OpenLaw := PySem.Challenge.rw_rigeyes_k04_located
def top (i : Nat) : Stmt := rw0.prog.main.body.getD i (.Pass ⟨0, 0, 0, 0⟩)
def tab : Tab := ⟨(("divisor", ⟨[.F, .F], false⟩) :: ("frac", ⟨[.F, .F], false⟩) :: ("plus", ⟨[.F, .F], false⟩) :: ("minus", ⟨[.F, .F], false⟩) :: ("times", ⟨[.F, .F], false⟩) :: ("whole", ⟨[.F], false⟩) :: ("direction", ⟨[.F, .F], false⟩) :: ("is_on", ⟨[.F, .F, .F], false⟩) :: ("meet", ⟨[.F, .F, .F, .F], false⟩) :: ("contrary", ⟨[.F], false⟩) :: ("stand", ⟨[.F, .F, .F, .F], false⟩) :: ("lookers_of", ⟨[.F], false⟩) :: ("marks_of", ⟨[.F], false⟩) :: ("first_two", ⟨[.F, .B, .B], false⟩) :: ("next_found", ⟨[.F, .B], false⟩) :: ("all_found", ⟨[.F], false⟩) :: ("located", ⟨[.F], true⟩) :: ("_law_cell", ⟨[.F, .F], false⟩) :: ("_law_draws", ⟨[.F, .F, .F, .F], false⟩) :: ("_law_by", ⟨[.F, .F], false⟩) :: ("_law_ratio", ⟨[.F, .F], false⟩) :: ("_law_sum", ⟨[.F, .F], false⟩) :: ("_law_less", ⟨[.F, .F], false⟩) :: ("_law_prod", ⟨[.F, .F], false⟩) :: ("_law_cross", ⟨[.F, .F], false⟩) :: ("_law_joint", ⟨[.F, .F, .F, .F], false⟩) :: ("_law_lowest", ⟨[.F], false⟩) :: ("_law_names", ⟨[], false⟩) :: ("_law_spread", ⟨[.F], false⟩) :: ("_law_survey", ⟨[.F], false⟩) :: ("_law_false", ⟨[.F, .F], false⟩) :: ("_law_two", ⟨[.F, .B, .F], false⟩) :: ("_law_found", ⟨[.F], false⟩) :: ("law", ⟨[.F], false⟩) :: []), [], ["abs", "sorted", "enumerate", "len", "range", "tuple", "set", "isinstance", "list"], [], [(["survey", "where", "name", "x", "y", "names", "time", "more", "seen_by", "sees_so", "two", "row", "one"], "where")]⟩
noncomputable def b_divisor : SS := sSeq (sPar [0, 1] (cCons (cCall (op1 absD) (cCons (cV 0) (cNil))) (cCons (cCall (op1 absD) (cCons (cV 1) (cNil))) (cNil)))) (sSeq (sWhile (cBT neD (cV 1) (cC (.int 0))) (sSeq (sPar [0, 1] (cCons (cV 1) (cCons (cB modD (cV 0) (cV 1)) (cNil)))) (sNil))) (sSeq (sRet (cV 0)) (sNil)))
noncomputable def r_divisor : DRow tab where
  x := "divisor"
  params := defArgs (top 1)
  body := defBody (top 1)
  sc := defScope (top 1)
  N := ["one", "other"]
  ps := ["one", "other"]
  d := ⟨2, 2, [.F, .F], false, b_divisor⟩
  S := ⟨by kernel_rfl, by kernel_rfl, by kernel_rfl, by decide +kernel, rfl, by decide +kernel, by decide +kernel⟩
  np := rfl
  nn := rfl
  par := rfl
  len := rfl
  bnd := fun _ _ _ _ _ _ us hl => match us, hl with | [_, _], _ => rfl
  cmp := by kernel_rfl
noncomputable def b_frac : SS := sSeq (sAsg (cFn "divisor" (cCons (cV 0) (cCons (cV 1) (cNil)))) (gN 2)) (sSeq (sIf (cBT ltD (cV 1) (cC (.int 0))) (sSeq (sAsg (cB subD (cC (.int 0)) (cV 2)) (gN 2)) (sNil)) (sNil)) (sSeq (sRet (cTup (cCons (cB fdivD (cV 0) (cV 2)) (cCons (cB fdivD (cV 1) (cV 2)) (cNil))))) (sNil)))
noncomputable def r_frac : DRow tab where
  x := "frac"
  params := defArgs (top 3)
  body := defBody (top 3)
  sc := defScope (top 3)
  N := ["upper", "lower", "by"]
  ps := ["upper", "lower"]
  d := ⟨2, 3, [.F, .F, .F], false, b_frac⟩
  S := ⟨by kernel_rfl, by kernel_rfl, by kernel_rfl, by decide +kernel, rfl, by decide +kernel, by decide +kernel⟩
  np := rfl
  nn := rfl
  par := rfl
  len := rfl
  bnd := fun _ _ _ _ _ _ us hl => match us, hl with | [_, _], _ => rfl
  cmp := by kernel_rfl
noncomputable def b_plus : SS := sSeq (sRet (cFn "frac" (cCons (cB addD (cB mulD (cIx (cV 0) (cC (.int 0))) (cIx (cV 1) (cC (.int 1)))) (cB mulD (cIx (cV 1) (cC (.int 0))) (cIx (cV 0) (cC (.int 1))))) (cCons (cB mulD (cIx (cV 0) (cC (.int 1))) (cIx (cV 1) (cC (.int 1)))) (cNil))))) (sNil)
noncomputable def r_plus : DRow tab where
  x := "plus"
  params := defArgs (top 4)
  body := defBody (top 4)
  sc := defScope (top 4)
  N := ["one", "other"]
  ps := ["one", "other"]
  d := ⟨2, 2, [.F, .F], false, b_plus⟩
  S := ⟨by kernel_rfl, by kernel_rfl, by kernel_rfl, by decide +kernel, rfl, by decide +kernel, by decide +kernel⟩
  np := rfl
  nn := rfl
  par := rfl
  len := rfl
  bnd := fun _ _ _ _ _ _ us hl => match us, hl with | [_, _], _ => rfl
  cmp := by kernel_rfl
noncomputable def b_minus : SS := sSeq (sRet (cFn "frac" (cCons (cB subD (cB mulD (cIx (cV 0) (cC (.int 0))) (cIx (cV 1) (cC (.int 1)))) (cB mulD (cIx (cV 1) (cC (.int 0))) (cIx (cV 0) (cC (.int 1))))) (cCons (cB mulD (cIx (cV 0) (cC (.int 1))) (cIx (cV 1) (cC (.int 1)))) (cNil))))) (sNil)
noncomputable def r_minus : DRow tab where
  x := "minus"
  params := defArgs (top 5)
  body := defBody (top 5)
  sc := defScope (top 5)
  N := ["one", "other"]
  ps := ["one", "other"]
  d := ⟨2, 2, [.F, .F], false, b_minus⟩
  S := ⟨by kernel_rfl, by kernel_rfl, by kernel_rfl, by decide +kernel, rfl, by decide +kernel, by decide +kernel⟩
  np := rfl
  nn := rfl
  par := rfl
  len := rfl
  bnd := fun _ _ _ _ _ _ us hl => match us, hl with | [_, _], _ => rfl
  cmp := by kernel_rfl
noncomputable def b_times : SS := sSeq (sRet (cFn "frac" (cCons (cB mulD (cIx (cV 0) (cC (.int 0))) (cIx (cV 1) (cC (.int 0)))) (cCons (cB mulD (cIx (cV 0) (cC (.int 1))) (cIx (cV 1) (cC (.int 1)))) (cNil))))) (sNil)
noncomputable def r_times : DRow tab where
  x := "times"
  params := defArgs (top 6)
  body := defBody (top 6)
  sc := defScope (top 6)
  N := ["one", "other"]
  ps := ["one", "other"]
  d := ⟨2, 2, [.F, .F], false, b_times⟩
  S := ⟨by kernel_rfl, by kernel_rfl, by kernel_rfl, by decide +kernel, rfl, by decide +kernel, by decide +kernel⟩
  np := rfl
  nn := rfl
  par := rfl
  len := rfl
  bnd := fun _ _ _ _ _ _ us hl => match us, hl with | [_, _], _ => rfl
  cmp := by kernel_rfl
noncomputable def b_whole : SS := sSeq (sRet (cTup (cCons (cTup (cCons (cIx (cV 0) (cC (.int 0))) (cCons (cC (.int 1)) (cNil)))) (cCons (cTup (cCons (cIx (cV 0) (cC (.int 1))) (cCons (cC (.int 1)) (cNil)))) (cNil))))) (sNil)
noncomputable def r_whole : DRow tab where
  x := "whole"
  params := defArgs (top 7)
  body := defBody (top 7)
  sc := defScope (top 7)
  N := ["point"]
  ps := ["point"]
  d := ⟨1, 1, [.F], false, b_whole⟩
  S := ⟨by kernel_rfl, by kernel_rfl, by kernel_rfl, by decide +kernel, rfl, by decide +kernel, by decide +kernel⟩
  np := rfl
  nn := rfl
  par := rfl
  len := rfl
  bnd := fun _ _ _ _ _ _ us hl => match us, hl with | [_], _ => rfl
  cmp := by kernel_rfl
noncomputable def b_direction : SS := sSeq (sPar [2, 3] (cCons (cFn "minus" (cCons (cIx (cV 1) (cC (.int 0))) (cCons (cIx (cV 0) (cC (.int 0))) (cNil)))) (cCons (cFn "minus" (cCons (cIx (cV 1) (cC (.int 1))) (cCons (cIx (cV 0) (cC (.int 1))) (cNil)))) (cNil)))) (sSeq (sPar [4, 5] (cCons (cB mulD (cIx (cV 2) (cC (.int 0))) (cIx (cV 3) (cC (.int 1)))) (cCons (cB mulD (cIx (cV 3) (cC (.int 0))) (cIx (cV 2) (cC (.int 1)))) (cNil)))) (sSeq (sAsg (cFn "divisor" (cCons (cV 4) (cCons (cV 5) (cNil)))) (gN 6)) (sSeq (sRet (cTup (cCons (cB fdivD (cV 4) (cV 6)) (cCons (cB fdivD (cV 5) (cV 6)) (cNil))))) (sNil))))
noncomputable def r_direction : DRow tab where
  x := "direction"
  params := defArgs (top 8)
  body := defBody (top 8)
  sc := defScope (top 8)
  N := ["one", "other", "dx", "dy", "across", "up", "by"]
  ps := ["one", "other"]
  d := ⟨2, 7, [.F, .F, .F, .F, .F, .F, .F], false, b_direction⟩
  S := ⟨by kernel_rfl, by kernel_rfl, by kernel_rfl, by decide +kernel, rfl, by decide +kernel, by decide +kernel⟩
  np := rfl
  nn := rfl
  par := rfl
  len := rfl
  bnd := fun _ _ _ _ _ _ us hl => match us, hl with | [_, _], _ => rfl
  cmp := by kernel_rfl
noncomputable def b_is_on : SS := sSeq (sIf (cBT eqD (cV 0) (cV 2)) (sSeq (sRet (cC (.bl false))) (sNil)) (sNil)) (sSeq (sRet (cB eqD (cFn "direction" (cCons (cV 0) (cCons (cV 2) (cNil)))) (cV 1))) (sNil))
noncomputable def r_is_on : DRow tab where
  x := "is_on"
  params := defArgs (top 9)
  body := defBody (top 9)
  sc := defScope (top 9)
  N := ["point", "way", "other"]
  ps := ["point", "way", "other"]
  d := ⟨3, 3, [.F, .F, .F], false, b_is_on⟩
  S := ⟨by kernel_rfl, by kernel_rfl, by kernel_rfl, by decide +kernel, rfl, by decide +kernel, by decide +kernel⟩
  np := rfl
  nn := rfl
  par := rfl
  len := rfl
  bnd := fun _ _ _ _ _ _ us hl => match us, hl with | [_, _, _], _ => rfl
  cmp := by kernel_rfl
noncomputable def b_meet : SS := sSeq (sAsg (cB subD (cB mulD (cIx (cV 1) (cC (.int 0))) (cIx (cV 3) (cC (.int 1)))) (cB mulD (cIx (cV 1) (cC (.int 1))) (cIx (cV 3) (cC (.int 0))))) (gN 4)) (sSeq (sIf (cBT eqD (cV 4) (cC (.int 0))) (sSeq (sRet (cC (.non))) (sNil)) (sNil)) (sSeq (sPar [5, 6] (cCons (cFn "minus" (cCons (cIx (cV 2) (cC (.int 0))) (cCons (cIx (cV 0) (cC (.int 0))) (cNil)))) (cCons (cFn "minus" (cCons (cIx (cV 2) (cC (.int 1))) (cCons (cIx (cV 0) (cC (.int 1))) (cNil)))) (cNil)))) (sSeq (sAsg (cFn "minus" (cCons (cFn "times" (cCons (cV 5) (cCons (cTup (cCons (cIx (cV 3) (cC (.int 1))) (cCons (cC (.int 1)) (cNil)))) (cNil)))) (cCons (cFn "times" (cCons (cV 6) (cCons (cTup (cCons (cIx (cV 3) (cC (.int 0))) (cCons (cC (.int 1)) (cNil)))) (cNil)))) (cNil)))) (gN 7)) (sSeq (sAsg (cFn "frac" (cCons (cIx (cV 7) (cC (.int 0))) (cCons (cB mulD (cIx (cV 7) (cC (.int 1))) (cV 4)) (cNil)))) (gN 7)) (sSeq (sAsg (cTup (cCons (cFn "plus" (cCons (cIx (cV 0) (cC (.int 0))) (cCons (cFn "times" (cCons (cV 7) (cCons (cTup (cCons (cIx (cV 1) (cC (.int 0))) (cCons (cC (.int 1)) (cNil)))) (cNil)))) (cNil)))) (cCons (cFn "plus" (cCons (cIx (cV 0) (cC (.int 1))) (cCons (cFn "times" (cCons (cV 7) (cCons (cTup (cCons (cIx (cV 1) (cC (.int 1))) (cCons (cC (.int 1)) (cNil)))) (cNil)))) (cNil)))) (cNil)))) (gN 8)) (sSeq (sRet (cIf (cAndT (cTr (cFn "is_on" (cCons (cV 0) (cCons (cV 1) (cCons (cV 8) (cNil)))))) (cTr (cFn "is_on" (cCons (cV 2) (cCons (cV 3) (cCons (cV 8) (cNil))))))) (cV 8) (cC (.non)))) (sNil)))))))
noncomputable def r_meet : DRow tab where
  x := "meet"
  params := defArgs (top 10)
  body := defBody (top 10)
  sc := defScope (top 10)
  N := ["one", "way", "other", "towards", "cross", "dx", "dy", "far", "point"]
  ps := ["one", "way", "other", "towards"]
  d := ⟨4, 9, [.F, .F, .F, .F, .F, .F, .F, .F, .F], false, b_meet⟩
  S := ⟨by kernel_rfl, by kernel_rfl, by kernel_rfl, by decide +kernel, rfl, by decide +kernel, by decide +kernel⟩
  np := rfl
  nn := rfl
  par := rfl
  len := rfl
  bnd := fun _ _ _ _ _ _ us hl => match us, hl with | [_, _, _, _], _ => rfl
  cmp := by kernel_rfl
noncomputable def b_contrary : SS := sSeq (sRet (cTup (cCons (cB subD (cC (.int 0)) (cIx (cV 0) (cC (.int 0)))) (cCons (cB subD (cC (.int 0)) (cIx (cV 0) (cC (.int 1)))) (cNil))))) (sNil)
noncomputable def r_contrary : DRow tab where
  x := "contrary"
  params := defArgs (top 11)
  body := defBody (top 11)
  sc := defScope (top 11)
  N := ["way"]
  ps := ["way"]
  d := ⟨1, 1, [.F], false, b_contrary⟩
  S := ⟨by kernel_rfl, by kernel_rfl, by kernel_rfl, by decide +kernel, rfl, by decide +kernel, by decide +kernel⟩
  np := rfl
  nn := rfl
  par := rfl
  len := rfl
  bnd := fun _ _ _ _ _ _ us hl => match us, hl with | [_], _ => rfl
  cmp := by kernel_rfl
noncomputable def b_stand : SS := sSeq (sRet (cFn "meet" (cCons (cV 0) (cCons (cFn "contrary" (cCons (cV 1) (cNil))) (cCons (cV 2) (cCons (cFn "contrary" (cCons (cV 3) (cNil))) (cNil))))))) (sNil)
noncomputable def r_stand : DRow tab where
  x := "stand"
  params := defArgs (top 12)
  body := defBody (top 12)
  sc := defScope (top 12)
  N := ["one", "way", "other", "towards"]
  ps := ["one", "way", "other", "towards"]
  d := ⟨4, 4, [.F, .F, .F, .F], false, b_stand⟩
  S := ⟨by kernel_rfl, by kernel_rfl, by kernel_rfl, by decide +kernel, rfl, by decide +kernel, by decide +kernel⟩
  np := rfl
  nn := rfl
  par := rfl
  len := rfl
  bnd := fun _ _ _ _ _ _ us hl => match us, hl with | [_, _, _, _], _ => rfl
  cmp := by kernel_rfl
noncomputable def b_lookers_of : SS := sSeq (sRet (cSs [1] (cWalk (cV 0)) (gN 1) (cTrue) (cIx (cV 1) (cC (.int 0))))) (sNil)
noncomputable def r_lookers_of : DRow tab where
  x := "lookers_of"
  params := defArgs (top 14)
  body := defBody (top 14)
  sc := defScope (top 14)
  N := ["sights", "row"]
  ps := ["sights"]
  d := ⟨1, 2, [.F, .F], false, b_lookers_of⟩
  S := ⟨by kernel_rfl, by kernel_rfl, by kernel_rfl, by decide +kernel, rfl, by decide +kernel, by decide +kernel⟩
  np := rfl
  nn := rfl
  par := rfl
  len := rfl
  bnd := fun _ _ _ _ _ _ us hl => match us, hl with | [_], _ => rfl
  cmp := by kernel_rfl
noncomputable def b_marks_of : SS := sSeq (sRet (cSs [1] (cWalk (cV 0)) (gN 1) (cTrue) (cIx (cV 1) (cC (.int 1))))) (sNil)
noncomputable def r_marks_of : DRow tab where
  x := "marks_of"
  params := defArgs (top 15)
  body := defBody (top 15)
  sc := defScope (top 15)
  N := ["sights", "row"]
  ps := ["sights"]
  d := ⟨1, 2, [.F, .F], false, b_marks_of⟩
  S := ⟨by kernel_rfl, by kernel_rfl, by kernel_rfl, by decide +kernel, rfl, by decide +kernel, by decide +kernel⟩
  np := rfl
  nn := rfl
  par := rfl
  len := rfl
  bnd := fun _ _ _ _ _ _ us hl => match us, hl with | [_], _ => rfl
  cmp := by kernel_rfl
noncomputable def b_first_two : SS := sSeq (sFor (cEnum (cV 0)) (gT (gsCons (gN 3) (gsCons (gT (gsCons (gN 4) (gsCons (gN 5) (gsNil)))) (gsNil)))) (sSeq (sFor (cWalk (cSl (cV 0) (cPart (cB addD (cV 3) (cC (.int 1)))) (cNone))) (gT (gsCons (gN 6) (gsCons (gN 7) (gsNil)))) (sSeq (sAsg (cFnP 2 ["meet", "stand", "_law_draws", "_law_joint"] (cCons (cIx (cIx (cV 1) (cV 4)) (cC (.int 0))) (cCons (cV 5) (cCons (cIx (cIx (cV 1) (cV 6)) (cC (.int 0))) (cCons (cV 7) (cNil)))))) (gN 8)) (sSeq (sIf (cBT isntD (cV 8) (cC (.non))) (sSeq (sRet (cTup (cCons (cV 8) (cCons (cV 4) (cCons (cV 6) (cNil)))))) (sNil)) (sNil)) (sNil)))) (sNil))) (sSeq (sRet (cC (.non))) (sNil))
noncomputable def r_first_two : DRow tab where
  x := "first_two"
  params := defArgs (top 16)
  body := defBody (top 16)
  sc := defScope (top 16)
  N := ["rows", "where", "joint", "at", "one", "way", "other", "towards", "point"]
  ps := ["rows", "where", "joint"]
  d := ⟨3, 9, [.F, .B, .B, .F, .F, .F, .F, .F, .F], false, b_first_two⟩
  S := ⟨by kernel_rfl, by kernel_rfl, by kernel_rfl, by decide +kernel, rfl, by decide +kernel, by decide +kernel⟩
  np := rfl
  nn := rfl
  par := rfl
  len := rfl
  bnd := fun _ _ _ _ _ _ us hl => match us, hl with | [_, _, _], _ => rfl
  cmp := by kernel_rfl
noncomputable def b_next_found : SS := sSeq (sSetM 2 (cC (.dic false []))) (sSeq (sFor (cWalk (cFn "marks_of" (cCons (cV 0) (cNil)))) (gN 3) (sSeq (sAsg (cLc [5, 6, 7] (cWalk (cV 0)) (gT (gsCons (gN 5) (gsCons (gN 6) (gsCons (gN 7) (gsNil))))) (cAndT (cBT eqD (cV 6) (cV 3)) (cBT inD (cV 5) (cV 1))) (cTup (cCons (cV 5) (cCons (cV 7) (cNil))))) (gN 4)) (sSeq (sPut 2 (cV 3) (cIf (cBT notInD (cV 3) (cV 1)) (cFn "first_two" (cCons (cV 4) (cCons (cV 1) (cCons (cC (.fn "meet")) (cNil))))) (cC (.non)))) (sNil)))) (sSeq (sFor (cWalk (cFn "lookers_of" (cCons (cV 0) (cNil)))) (gN 5) (sSeq (sAsg (cLc [6, 3, 7] (cWalk (cV 0)) (gT (gsCons (gN 6) (gsCons (gN 3) (gsCons (gN 7) (gsNil))))) (cAndT (cBT eqD (cV 6) (cV 5)) (cBT inD (cV 3) (cV 1))) (cTup (cCons (cV 3) (cCons (cV 7) (cNil))))) (gN 4)) (sSeq (sPut 2 (cV 5) (cIf (cBT notInD (cV 5) (cV 1)) (cFn "first_two" (cCons (cV 4) (cCons (cV 1) (cCons (cC (.fn "stand")) (cNil))))) (cC (.non)))) (sNil)))) (sSeq (sRet (cDc false [8, 9] (cItems 2) (gT (gsCons (gN 8) (gsCons (gN 9) (gsNil)))) (cBT isntD (cV 9) (cC (.non))) (cV 8) (cV 9))) (sNil))))
noncomputable def r_next_found : DRow tab where
  x := "next_found"
  params := defArgs (top 17)
  body := defBody (top 17)
  sc := defScope (top 17)
  N := ["sights", "where", "found", "mark", "rows", "looker", "other", "way", "name", "row"]
  ps := ["sights", "where"]
  d := ⟨2, 10, [.F, .B, .M, .F, .F, .F, .F, .F, .F, .F], false, b_next_found⟩
  S := ⟨by kernel_rfl, by kernel_rfl, by kernel_rfl, by decide +kernel, rfl, by decide +kernel, by decide +kernel⟩
  np := rfl
  nn := rfl
  par := rfl
  len := rfl
  bnd := fun _ _ _ _ _ _ us hl => match us, hl with | [_, _], _ => rfl
  cmp := by kernel_rfl
noncomputable def b_all_found : SS := sSeq (sAsg (cV 0) (gT (gsCons (gN 1) (gsCons (gN 2) (gsNil))))) (sSeq (sSetM 3 (cDc false [6, 7] (cWalk (cV 1)) (gT (gsCons (gN 6) (gsCons (gN 7) (gsNil)))) (cTrue) (cV 6) (cTup (cCons (cFn "whole" (cCons (cV 7) (cNil))) (cCons (cC (.int 0)) (cCons (cC (.non)) (cNil))))))) (sSeq (sAsg (cFn "next_found" (cCons (cV 2) (cCons (cV 3) (cNil)))) (gN 4)) (sSeq (sAsg (cC (.int 1)) (gN 5)) (sSeq (sWhile (cBT neD (cV 4) (cC (.dic false []))) (sSeq (sUpd 3 (cDc false [6, 8] (cItems 4) (gT (gsCons (gN 6) (gsCons (gN 8) (gsNil)))) (cTrue) (cV 6) (cTup (cCons (cIx (cV 8) (cC (.int 0))) (cCons (cV 5) (cCons (cSl (cV 8) (cPart (cC (.int 1))) (cNone)) (cNil))))))) (sSeq (sAsg (cFn "next_found" (cCons (cV 2) (cCons (cV 3) (cNil)))) (gN 4)) (sSeq (sAug 5 (cC (.int 1))) (sNil))))) (sSeq (sRet (cV 3)) (sNil))))))
noncomputable def r_all_found : DRow tab where
  x := "all_found"
  params := defArgs (top 18)
  body := defBody (top 18)
  sc := defScope (top 18)
  N := ["survey", "knowns", "sights", "where", "more", "time", "name", "point", "row"]
  ps := ["survey"]
  d := ⟨1, 9, [.F, .F, .F, .M, .F, .F, .F, .F, .F], false, b_all_found⟩
  S := ⟨by kernel_rfl, by kernel_rfl, by kernel_rfl, by decide +kernel, rfl, by decide +kernel, by decide +kernel⟩
  np := rfl
  nn := rfl
  par := rfl
  len := rfl
  bnd := fun _ _ _ _ _ _ us hl => match us, hl with | [_], _ => rfl
  cmp := by kernel_rfl
noncomputable def b_located : SS := sSeq (sAsg (cFn "all_found" (cCons (cV 0) (cNil))) (gN 1)) (sSeq (sRetT (cLc [2] (cWalk (cCall (op1 sortedD) (cCons (cV 1) (cNil)))) (gN 2) (cTrue) (cB addD (cTup (cCons (cV 2) (cNil))) (cSl (cIx (cV 1) (cV 2)) (cNone) (cPart (cC (.int 2))))))) (sNil))
noncomputable def r_located : DRow tab where
  x := "located"
  params := defArgs (top 19)
  body := defBody (top 19)
  sc := defScope (top 19)
  N := ["survey", "where", "name"]
  ps := ["survey"]
  d := ⟨1, 3, [.F, .F, .F], true, b_located⟩
  S := ⟨by kernel_rfl, by kernel_rfl, by kernel_rfl, by decide +kernel, rfl, by decide +kernel, by decide +kernel⟩
  np := rfl
  nn := rfl
  par := rfl
  len := rfl
  bnd := fun _ _ _ _ _ _ us hl => match us, hl with | [_], _ => rfl
  cmp := by kernel_rfl
noncomputable def b__law_cell : SS := sSeq (sIf (cBT ltD (cV 1) (cCall (op1 lenD) (cCons (cV 0) (cNil)))) (sSeq (sRet (cIx (cV 0) (cV 1))) (sNil)) (sNil)) (sSeq (sIf (cBT eqD (cCall (op1 lenD) (cCons (cV 0) (cNil))) (cC (.int 0))) (sSeq (sRet (cB addD (cB mulD (cC (.int 7919)) (cV 1)) (cC (.int 101)))) (sNil)) (sNil)) (sSeq (sRet (cB addD (cB modD (cIx (cV 0) (cB modD (cV 1) (cCall (op1 lenD) (cCons (cV 0) (cNil))))) (cC (.int 1000003))) (cB mulD (cC (.int 7919)) (cV 1)))) (sNil)))
noncomputable def r__law_cell : DRow tab where
  x := "_law_cell"
  params := defArgs (top 21)
  body := defBody (top 21)
  sc := defScope (top 21)
  N := ["script", "k"]
  ps := ["script", "k"]
  d := ⟨2, 2, [.F, .F], false, b__law_cell⟩
  S := ⟨by kernel_rfl, by kernel_rfl, by kernel_rfl, by decide +kernel, rfl, by decide +kernel, by decide +kernel⟩
  np := rfl
  nn := rfl
  par := rfl
  len := rfl
  bnd := fun _ _ _ _ _ _ us hl => match us, hl with | [_, _], _ => rfl
  cmp := by kernel_rfl
noncomputable def b__law_draws : SS := sSeq (sAsg (cTup (cCons (cC (.int 2147483647)) (cCons (cC (.int 2147483629)) (cCons (cC (.int 2147483587)) (cCons (cC (.int 2147483579)) (cCons (cC (.int 2147483563)) (cCons (cC (.int 2147483549)) (cCons (cC (.int 2147483543)) (cCons (cC (.int 2147483497)) (cNil)))))))))) (gN 4)) (sSeq (sAsg (cFn "_law_cell" (cCons (cV 0) (cCons (cV 1) (cNil)))) (gN 5)) (sSeq (sAsg (cC (.int 0)) (gN 6)) (sSeq (sIf (cBT geD (cV 5) (cB powD (cC (.int 10)) (cC (.int 18)))) (sSeq (sAsg (cV 5) (gN 6)) (sNil)) (sNil)) (sSeq (sSetM 7 (cND (cLst (cNil)))) (sSeq (sFor (cRng1 (cV 2)) (gN 8) (sSeq (sAsg (cB mulD (cB modD (cV 5) (cIx (cV 4) (cB modD (cV 8) (cC (.int 8))))) (cB addD (cC (.int 48271)) (cB mulD (cB mulD (cC (.int 2)) (cV 8)) (cV 8)))) (gN 9)) (sSeq (sAsg (cB addD (cB addD (cV 9) (cB mulD (cB mulD (cC (.int 7919)) (cB addD (cV 8) (cC (.int 1)))) (cB addD (cV 8) (cC (.int 1))))) (cB mulD (cC (.int 104729)) (cV 1))) (gN 9)) (sSeq (sAsg (cB modD (cV 9) (cIx (cV 4) (cB modD (cB addD (cB mulD (cC (.int 3)) (cV 8)) (cV 1)) (cC (.int 8))))) (gN 9)) (sSeq (sAsg (cB modD (cB mulD (cB mulD (cV 9) (cV 9)) (cV 9)) (cIx (cV 4) (cB modD (cB addD (cV 8) (cC (.int 5))) (cC (.int 8))))) (gN 9)) (sSeq (sIf (cBT gtD (cV 6) (cC (.int 0))) (sSeq (sAsg (cV 6) (gN 9)) (sNil)) (sNil)) (sSeq (sApp 7 (cB modD (cV 9) (cV 3))) (sSeq (sAsg (cB fdivD (cV 6) (cV 3)) (gN 6)) (sNil))))))))) (sSeq (sRet (cV 7)) (sNil)))))))
noncomputable def r__law_draws : DRow tab where
  x := "_law_draws"
  params := defArgs (top 22)
  body := defBody (top 22)
  sc := defScope (top 22)
  N := ["script", "k", "many", "base", "primes", "cell", "rest", "row", "j", "mash"]
  ps := ["script", "k", "many", "base"]
  d := ⟨4, 10, [.F, .F, .F, .F, .F, .F, .F, .M, .F, .F], false, b__law_draws⟩
  S := ⟨by kernel_rfl, by kernel_rfl, by kernel_rfl, by decide +kernel, rfl, by decide +kernel, by decide +kernel⟩
  np := rfl
  nn := rfl
  par := rfl
  len := rfl
  bnd := fun _ _ _ _ _ _ us hl => match us, hl with | [_, _, _, _], _ => rfl
  cmp := by kernel_rfl
noncomputable def b__law_by : SS := sSeq (sPar [0, 1] (cCons (cCall (op1 absD) (cCons (cV 0) (cNil))) (cCons (cCall (op1 absD) (cCons (cV 1) (cNil))) (cNil)))) (sSeq (sWhile (cBT gtD (cV 1) (cC (.int 0))) (sSeq (sPar [0, 1] (cCons (cV 1) (cCons (cB modD (cV 0) (cV 1)) (cNil)))) (sNil))) (sSeq (sRet (cV 0)) (sNil)))
noncomputable def r__law_by : DRow tab where
  x := "_law_by"
  params := defArgs (top 23)
  body := defBody (top 23)
  sc := defScope (top 23)
  N := ["one", "other"]
  ps := ["one", "other"]
  d := ⟨2, 2, [.F, .F], false, b__law_by⟩
  S := ⟨by kernel_rfl, by kernel_rfl, by kernel_rfl, by decide +kernel, rfl, by decide +kernel, by decide +kernel⟩
  np := rfl
  nn := rfl
  par := rfl
  len := rfl
  bnd := fun _ _ _ _ _ _ us hl => match us, hl with | [_, _], _ => rfl
  cmp := by kernel_rfl
noncomputable def b__law_ratio : SS := sSeq (sAsg (cB mulD (cFn "_law_by" (cCons (cV 0) (cCons (cV 1) (cNil)))) (cIf (cBT gtD (cV 1) (cC (.int 0))) (cC (.int 1)) (cB subD (cC (.int 0)) (cC (.int 1))))) (gN 2)) (sSeq (sRet (cTup (cCons (cB fdivD (cV 0) (cV 2)) (cCons (cB fdivD (cV 1) (cV 2)) (cNil))))) (sNil))
noncomputable def r__law_ratio : DRow tab where
  x := "_law_ratio"
  params := defArgs (top 24)
  body := defBody (top 24)
  sc := defScope (top 24)
  N := ["upper", "lower", "by"]
  ps := ["upper", "lower"]
  d := ⟨2, 3, [.F, .F, .F], false, b__law_ratio⟩
  S := ⟨by kernel_rfl, by kernel_rfl, by kernel_rfl, by decide +kernel, rfl, by decide +kernel, by decide +kernel⟩
  np := rfl
  nn := rfl
  par := rfl
  len := rfl
  bnd := fun _ _ _ _ _ _ us hl => match us, hl with | [_, _], _ => rfl
  cmp := by kernel_rfl
noncomputable def b__law_sum : SS := sSeq (sRet (cFn "_law_ratio" (cCons (cB addD (cB mulD (cIx (cV 0) (cC (.int 0))) (cIx (cV 1) (cC (.int 1)))) (cB mulD (cIx (cV 1) (cC (.int 0))) (cIx (cV 0) (cC (.int 1))))) (cCons (cB mulD (cIx (cV 0) (cC (.int 1))) (cIx (cV 1) (cC (.int 1)))) (cNil))))) (sNil)
noncomputable def r__law_sum : DRow tab where
  x := "_law_sum"
  params := defArgs (top 25)
  body := defBody (top 25)
  sc := defScope (top 25)
  N := ["one", "other"]
  ps := ["one", "other"]
  d := ⟨2, 2, [.F, .F], false, b__law_sum⟩
  S := ⟨by kernel_rfl, by kernel_rfl, by kernel_rfl, by decide +kernel, rfl, by decide +kernel, by decide +kernel⟩
  np := rfl
  nn := rfl
  par := rfl
  len := rfl
  bnd := fun _ _ _ _ _ _ us hl => match us, hl with | [_, _], _ => rfl
  cmp := by kernel_rfl
noncomputable def b__law_less : SS := sSeq (sRet (cFn "_law_ratio" (cCons (cB subD (cB mulD (cIx (cV 0) (cC (.int 0))) (cIx (cV 1) (cC (.int 1)))) (cB mulD (cIx (cV 1) (cC (.int 0))) (cIx (cV 0) (cC (.int 1))))) (cCons (cB mulD (cIx (cV 0) (cC (.int 1))) (cIx (cV 1) (cC (.int 1)))) (cNil))))) (sNil)
noncomputable def r__law_less : DRow tab where
  x := "_law_less"
  params := defArgs (top 26)
  body := defBody (top 26)
  sc := defScope (top 26)
  N := ["one", "other"]
  ps := ["one", "other"]
  d := ⟨2, 2, [.F, .F], false, b__law_less⟩
  S := ⟨by kernel_rfl, by kernel_rfl, by kernel_rfl, by decide +kernel, rfl, by decide +kernel, by decide +kernel⟩
  np := rfl
  nn := rfl
  par := rfl
  len := rfl
  bnd := fun _ _ _ _ _ _ us hl => match us, hl with | [_, _], _ => rfl
  cmp := by kernel_rfl
noncomputable def b__law_prod : SS := sSeq (sRet (cFn "_law_ratio" (cCons (cB mulD (cIx (cV 0) (cC (.int 0))) (cIx (cV 1) (cC (.int 0)))) (cCons (cB mulD (cIx (cV 0) (cC (.int 1))) (cIx (cV 1) (cC (.int 1)))) (cNil))))) (sNil)
noncomputable def r__law_prod : DRow tab where
  x := "_law_prod"
  params := defArgs (top 27)
  body := defBody (top 27)
  sc := defScope (top 27)
  N := ["one", "other"]
  ps := ["one", "other"]
  d := ⟨2, 2, [.F, .F], false, b__law_prod⟩
  S := ⟨by kernel_rfl, by kernel_rfl, by kernel_rfl, by decide +kernel, rfl, by decide +kernel, by decide +kernel⟩
  np := rfl
  nn := rfl
  par := rfl
  len := rfl
  bnd := fun _ _ _ _ _ _ us hl => match us, hl with | [_, _], _ => rfl
  cmp := by kernel_rfl
noncomputable def b__law_cross : SS := sSeq (sRet (cFn "_law_less" (cCons (cFn "_law_prod" (cCons (cIx (cV 0) (cC (.int 0))) (cCons (cTup (cCons (cIx (cV 1) (cC (.int 1))) (cCons (cC (.int 1)) (cNil)))) (cNil)))) (cCons (cFn "_law_prod" (cCons (cIx (cV 0) (cC (.int 1))) (cCons (cTup (cCons (cIx (cV 1) (cC (.int 0))) (cCons (cC (.int 1)) (cNil)))) (cNil)))) (cNil))))) (sNil)
noncomputable def r__law_cross : DRow tab where
  x := "_law_cross"
  params := defArgs (top 28)
  body := defBody (top 28)
  sc := defScope (top 28)
  N := ["point", "pair"]
  ps := ["point", "pair"]
  d := ⟨2, 2, [.F, .F], false, b__law_cross⟩
  S := ⟨by kernel_rfl, by kernel_rfl, by kernel_rfl, by decide +kernel, rfl, by decide +kernel, by decide +kernel⟩
  np := rfl
  nn := rfl
  par := rfl
  len := rfl
  bnd := fun _ _ _ _ _ _ us hl => match us, hl with | [_, _], _ => rfl
  cmp := by kernel_rfl
noncomputable def b__law_joint : SS := sSeq (sAsg (cB subD (cB mulD (cIx (cV 1) (cC (.int 0))) (cIx (cV 3) (cC (.int 1)))) (cB mulD (cIx (cV 1) (cC (.int 1))) (cIx (cV 3) (cC (.int 0))))) (gN 4)) (sSeq (sIf (cBT eqD (cV 4) (cC (.int 0))) (sSeq (sRet (cC (.non))) (sNil)) (sNil)) (sSeq (sAsg (cTup (cCons (cFn "_law_less" (cCons (cIx (cV 2) (cC (.int 0))) (cCons (cIx (cV 0) (cC (.int 0))) (cNil)))) (cCons (cFn "_law_less" (cCons (cIx (cV 2) (cC (.int 1))) (cCons (cIx (cV 0) (cC (.int 1))) (cNil)))) (cNil)))) (gN 5)) (sSeq (sPar [6, 7] (cCons (cFn "_law_cross" (cCons (cV 5) (cCons (cV 3) (cNil)))) (cCons (cFn "_law_cross" (cCons (cV 5) (cCons (cV 1) (cNil)))) (cNil)))) (sSeq (sIf (cOrT (cBT leD (cB mulD (cIx (cV 6) (cC (.int 0))) (cV 4)) (cC (.int 0))) (cBT leD (cB mulD (cIx (cV 7) (cC (.int 0))) (cV 4)) (cC (.int 0)))) (sSeq (sRet (cC (.non))) (sNil)) (sNil)) (sSeq (sAsg (cFn "_law_ratio" (cCons (cIx (cV 6) (cC (.int 0))) (cCons (cB mulD (cIx (cV 6) (cC (.int 1))) (cV 4)) (cNil)))) (gN 8)) (sSeq (sRet (cTup (cCons (cFn "_law_sum" (cCons (cIx (cV 0) (cC (.int 0))) (cCons (cFn "_law_prod" (cCons (cV 8) (cCons (cTup (cCons (cIx (cV 1) (cC (.int 0))) (cCons (cC (.int 1)) (cNil)))) (cNil)))) (cNil)))) (cCons (cFn "_law_sum" (cCons (cIx (cV 0) (cC (.int 1))) (cCons (cFn "_law_prod" (cCons (cV 8) (cCons (cTup (cCons (cIx (cV 1) (cC (.int 1))) (cCons (cC (.int 1)) (cNil)))) (cNil)))) (cNil)))) (cNil))))) (sNil)))))))
noncomputable def r__law_joint : DRow tab where
  x := "_law_joint"
  params := defArgs (top 29)
  body := defBody (top 29)
  sc := defScope (top 29)
  N := ["one", "way", "other", "towards", "by", "far", "first", "second", "step"]
  ps := ["one", "way", "other", "towards"]
  d := ⟨4, 9, [.F, .F, .F, .F, .F, .F, .F, .F, .F], false, b__law_joint⟩
  S := ⟨by kernel_rfl, by kernel_rfl, by kernel_rfl, by decide +kernel, rfl, by decide +kernel, by decide +kernel⟩
  np := rfl
  nn := rfl
  par := rfl
  len := rfl
  bnd := fun _ _ _ _ _ _ us hl => match us, hl with | [_, _, _, _], _ => rfl
  cmp := by kernel_rfl
noncomputable def b__law_lowest : SS := sSeq (sAsg (cFn "_law_by" (cCons (cIx (cV 0) (cC (.int 0))) (cCons (cIx (cV 0) (cC (.int 1))) (cNil)))) (gN 1)) (sSeq (sRet (cTup (cCons (cB fdivD (cIx (cV 0) (cC (.int 0))) (cV 1)) (cCons (cB fdivD (cIx (cV 0) (cC (.int 1))) (cV 1)) (cNil))))) (sNil))
noncomputable def r__law_lowest : DRow tab where
  x := "_law_lowest"
  params := defArgs (top 30)
  body := defBody (top 30)
  sc := defScope (top 30)
  N := ["pair", "by"]
  ps := ["pair"]
  d := ⟨1, 2, [.F, .F], false, b__law_lowest⟩
  S := ⟨by kernel_rfl, by kernel_rfl, by kernel_rfl, by decide +kernel, rfl, by decide +kernel, by decide +kernel⟩
  np := rfl
  nn := rfl
  par := rfl
  len := rfl
  bnd := fun _ _ _ _ _ _ us hl => match us, hl with | [_], _ => rfl
  cmp := by kernel_rfl
noncomputable def b__law_names : SS := sSeq (sRet (cTup (cCons (cC (.str "ann")) (cCons (cC (.str "bo")) (cCons (cC (.str "cy")) (cCons (cC (.str "di")) (cCons (cC (.str "eve")) (cCons (cC (.str "box")) (cCons (cC (.str "cat")) (cCons (cC (.str "dog")) (cCons (cC (.str "elk")) (cCons (cC (.str "fox")) (cNil))))))))))))) (sNil)
noncomputable def r__law_names : DRow tab where
  x := "_law_names"
  params := defArgs (top 31)
  body := defBody (top 31)
  sc := defScope (top 31)
  N := []
  ps := []
  d := ⟨0, 0, [], false, b__law_names⟩
  S := ⟨by kernel_rfl, by kernel_rfl, by kernel_rfl, by decide +kernel, rfl, by decide +kernel, by decide +kernel⟩
  np := rfl
  nn := rfl
  par := rfl
  len := rfl
  bnd := fun _ _ _ _ _ _ us hl => match us, hl with | [], _ => rfl
  cmp := by kernel_rfl
noncomputable def b__law_spread : SS := sSeq (sSetM 1 (cC (.dic false []))) (sSeq (sFor (cEnum (cFn "_law_names" (cNil))) (gT (gsCons (gN 2) (gsCons (gN 3) (gsNil)))) (sSeq (sPut 1 (cV 3) (cTup (cCons (cB subD (cB modD (cIx (cV 0) (cV 2)) (cC (.int 81))) (cC (.int 40))) (cCons (cB subD (cB modD (cB fdivD (cIx (cV 0) (cV 2)) (cC (.int 81))) (cC (.int 81))) (cC (.int 40))) (cNil))))) (sNil))) (sSeq (sRet (cV 1)) (sNil)))
noncomputable def r__law_spread : DRow tab where
  x := "_law_spread"
  params := defArgs (top 32)
  body := defBody (top 32)
  sc := defScope (top 32)
  N := ["draws", "found", "k", "name"]
  ps := ["draws"]
  d := ⟨1, 4, [.F, .M, .F, .F], false, b__law_spread⟩
  S := ⟨by kernel_rfl, by kernel_rfl, by kernel_rfl, by decide +kernel, rfl, by decide +kernel, by decide +kernel⟩
  np := rfl
  nn := rfl
  par := rfl
  len := rfl
  bnd := fun _ _ _ _ _ _ us hl => match us, hl with | [_], _ => rfl
  cmp := by kernel_rfl
noncomputable def b__law_survey : SS := sSeq (sAsg (cFn "_law_spread" (cCons (cV 0) (cNil))) (gN 1)) (sSeq (sSetM 2 (cND (cLst (cNil)))) (sSeq (sFor (cRng1 (cC (.int 25))) (gN 3) (sSeq (sPar [4, 5] (cCons (cIx (cFn "_law_names" (cNil)) (cB fdivD (cV 3) (cC (.int 5)))) (cCons (cIx (cFn "_law_names" (cNil)) (cB addD (cC (.int 5)) (cB modD (cV 3) (cC (.int 5))))) (cNil)))) (sSeq (sPar [6, 7] (cCons (cIx (cV 1) (cV 4)) (cCons (cIx (cV 1) (cV 5)) (cNil)))) (sSeq (sIf (cAndT (cBT neD (cV 6) (cV 7)) (cAndT (cBT ltD (cCall (op1 lenD) (cCons (cV 2) (cNil))) (cC (.int 16))) (cBT gtD (cB modD (cIx (cV 0) (cB addD (cC (.int 10)) (cV 3))) (cC (.int 4))) (cC (.int 0))))) (sSeq (sApp 2 (cTup (cCons (cV 4) (cCons (cV 5) (cCons (cFn "_law_lowest" (cCons (cTup (cCons (cB subD (cIx (cV 7) (cC (.int 0))) (cIx (cV 6) (cC (.int 0)))) (cCons (cB subD (cIx (cV 7) (cC (.int 1))) (cIx (cV 6) (cC (.int 1)))) (cNil)))) (cNil))) (cNil)))))) (sNil)) (sNil)) (sNil))))) (sSeq (sSetM 8 (cND (cLst (cNil)))) (sSeq (sFor (cEnum (cFn "_law_names" (cNil))) (gT (gsCons (gN 3) (gsCons (gN 9) (gsNil)))) (sSeq (sIf (cAndT (cBT ltD (cCall (op1 lenD) (cCons (cV 8) (cNil))) (cIx (cLst (cCons (cC (.int 6)) (cCons (cC (.int 2)) (cCons (cC (.int 3)) (cCons (cC (.int 4)) (cNil)))))) (cB modD (cIx (cV 0) (cC (.int 35))) (cC (.int 4))))) (cBT eqD (cB modD (cIx (cV 0) (cB addD (cC (.int 36)) (cV 3))) (cC (.int 3))) (cC (.int 0)))) (sSeq (sApp 8 (cTup (cCons (cV 9) (cCons (cIx (cV 1) (cV 9)) (cNil))))) (sNil)) (sNil)) (sNil))) (sSeq (sSetIf 8 (cBT neD (cV 8) (cLst (cNil))) (cND (cLst (cCons (cTup (cCons (cC (.str "ann")) (cCons (cIx (cV 1) (cC (.str "ann"))) (cNil)))) (cNil))))) (sSeq (sRet (cTup (cCons (cTup (cCons (cCall (op1 tupleD) (cCons (cCall (op1 sortedD) (cCons (cV 8) (cNil))) (cNil))) (cCons (cCall (op1 tupleD) (cCons (cCall (op1 sortedD) (cCons (cV 2) (cNil))) (cNil))) (cNil)))) (cCons (cV 1) (cNil))))) (sNil)))))))
noncomputable def r__law_survey : DRow tab where
  x := "_law_survey"
  params := defArgs (top 33)
  body := defBody (top 33)
  sc := defScope (top 33)
  N := ["draws", "stands", "rows", "k", "looker", "mark", "one", "other", "known", "name"]
  ps := ["draws"]
  d := ⟨1, 10, [.F, .F, .M, .F, .F, .F, .F, .F, .M, .F], false, b__law_survey⟩
  S := ⟨by kernel_rfl, by kernel_rfl, by kernel_rfl, by decide +kernel, rfl, by decide +kernel, by decide +kernel⟩
  np := rfl
  nn := rfl
  par := rfl
  len := rfl
  bnd := fun _ _ _ _ _ _ us hl => match us, hl with | [_], _ => rfl
  cmp := by kernel_rfl
noncomputable def b__law_false : SS := sSeq (sSetM 2 (cND (cLst (cNil)))) (sSeq (sFor (cEnum (cIx (cV 0) (cC (.int 1)))) (gT (gsCons (gN 3) (gsCons (gT (gsCons (gN 4) (gsCons (gN 5) (gsCons (gT (gsCons (gN 6) (gsCons (gN 7) (gsNil)))) (gsNil))))) (gsNil)))) (sSeq (sAsg (cIx (cV 1) (cV 3)) (gN 8)) (sSeq (sAsg (cLst (cCons (cTup (cCons (cV 6) (cCons (cV 7) (cNil)))) (cCons (cTup (cCons (cV 6) (cCons (cV 7) (cNil)))) (cCons (cTup (cCons (cV 6) (cCons (cV 7) (cNil)))) (cCons (cTup (cCons (cB subD (cC (.int 0)) (cV 6)) (cCons (cB subD (cC (.int 0)) (cV 7)) (cNil)))) (cCons (cTup (cCons (cB subD (cC (.int 0)) (cV 7)) (cCons (cV 6) (cNil)))) (cCons (cTup (cCons (cB addD (cC (.int 1)) (cB modD (cB fdivD (cV 8) (cC (.int 7))) (cC (.int 5)))) (cCons (cC (.int 1)) (cNil)))) (cCons (cTup (cCons (cC (.int 0)) (cCons (cC (.int 1)) (cNil)))) (cNil))))))))) (gN 9)) (sSeq (sApp 2 (cTup (cCons (cV 4) (cCons (cV 5) (cCons (cFn "_law_lowest" (cCons (cIx (cV 9) (cB modD (cV 8) (cC (.int 7)))) (cNil))) (cNil)))))) (sNil))))) (sSeq (sRet (cTup (cCons (cIx (cV 0) (cC (.int 0))) (cCons (cCall (op1 tupleD) (cCons (cV 2) (cNil))) (cNil))))) (sNil)))
noncomputable def r__law_false : DRow tab where
  x := "_law_false"
  params := defArgs (top 34)
  body := defBody (top 34)
  sc := defScope (top 34)
  N := ["survey", "draws", "rows", "k", "looker", "mark", "dx", "dy", "draw", "some"]
  ps := ["survey", "draws"]
  d := ⟨2, 10, [.F, .F, .M, .F, .F, .F, .F, .F, .F, .F], false, b__law_false⟩
  S := ⟨by kernel_rfl, by kernel_rfl, by kernel_rfl, by decide +kernel, rfl, by decide +kernel, by decide +kernel⟩
  np := rfl
  nn := rfl
  par := rfl
  len := rfl
  bnd := fun _ _ _ _ _ _ us hl => match us, hl with | [_, _], _ => rfl
  cmp := by kernel_rfl
noncomputable def b__law_two : SS := sSeq (sFor (cEnum (cV 0)) (gT (gsCons (gN 3) (gsCons (gT (gsCons (gN 4) (gsCons (gN 5) (gsNil)))) (gsNil)))) (sSeq (sFor (cWalk (cSl (cV 0) (cPart (cB addD (cV 3) (cC (.int 1)))) (cNone))) (gT (gsCons (gN 6) (gsCons (gN 7) (gsNil)))) (sSeq (sAsg (cIf (cTr (cV 2)) (cTup (cCons (cB subD (cC (.int 0)) (cIx (cV 5) (cC (.int 0)))) (cCons (cB subD (cC (.int 0)) (cIx (cV 5) (cC (.int 1)))) (cNil)))) (cV 5)) (gN 8)) (sSeq (sAsg (cIf (cTr (cV 2)) (cTup (cCons (cB subD (cC (.int 0)) (cIx (cV 7) (cC (.int 0)))) (cCons (cB subD (cC (.int 0)) (cIx (cV 7) (cC (.int 1)))) (cNil)))) (cV 7)) (gN 9)) (sSeq (sAsg (cFn "_law_joint" (cCons (cIx (cIx (cV 1) (cV 4)) (cC (.int 0))) (cCons (cV 8) (cCons (cIx (cIx (cV 1) (cV 6)) (cC (.int 0))) (cCons (cV 9) (cNil)))))) (gN 10)) (sSeq (sIf (cBT isntD (cV 10) (cC (.non))) (sSeq (sRet (cTup (cCons (cV 10) (cCons (cV 4) (cCons (cV 6) (cNil)))))) (sNil)) (sNil)) (sNil)))))) (sNil))) (sSeq (sRet (cC (.non))) (sNil))
noncomputable def r__law_two : DRow tab where
  x := "_law_two"
  params := defArgs (top 35)
  body := defBody (top 35)
  sc := defScope (top 35)
  N := ["rows", "where", "back", "k", "one", "way", "other", "towards", "first", "second", "point"]
  ps := ["rows", "where", "back"]
  d := ⟨3, 11, [.F, .B, .F, .F, .F, .F, .F, .F, .F, .F, .F], false, b__law_two⟩
  S := ⟨by kernel_rfl, by kernel_rfl, by kernel_rfl, by decide +kernel, rfl, by decide +kernel, by decide +kernel⟩
  np := rfl
  nn := rfl
  par := rfl
  len := rfl
  bnd := fun _ _ _ _ _ _ us hl => match us, hl with | [_, _, _], _ => rfl
  cmp := by kernel_rfl
noncomputable def b__law_found : SS := sSeq (sSetM 1 (cC (.dic false []))) (sSeq (sFor (cWalk (cIx (cV 0) (cC (.int 0)))) (gT (gsCons (gN 2) (gsCons (gT (gsCons (gN 3) (gsCons (gN 4) (gsNil)))) (gsNil)))) (sSeq (sPut 1 (cV 2) (cTup (cCons (cTup (cCons (cTup (cCons (cV 3) (cCons (cC (.int 1)) (cNil)))) (cCons (cTup (cCons (cV 4) (cCons (cC (.int 1)) (cNil)))) (cNil)))) (cCons (cC (.int 0)) (cCons (cC (.non)) (cNil)))))) (sNil))) (sSeq (sAsg (cU setSortD (cB addD (cLc [11] (cWalk (cIx (cV 0) (cC (.int 1)))) (gN 11) (cTrue) (cIx (cV 11) (cC (.int 0)))) (cLc [11] (cWalk (cIx (cV 0) (cC (.int 1)))) (gN 11) (cTrue) (cIx (cV 11) (cC (.int 1)))))) (gN 5)) (sSeq (sAsg (cC (.int 0)) (gN 6)) (sSeq (sWhile (cOrT (cBT eqD (cV 6) (cC (.int 0))) (cBT neD (cLc [2] (cKeys 1) (gN 2) (cBT eqD (cIx (cIx (cV 1) (cV 2)) (cC (.int 1))) (cV 6)) (cC (.int 1))) (cLst (cNil)))) (sSeq (sAsg (cB addD (cV 6) (cC (.int 1))) (gN 6)) (sSeq (sSetM 7 (cC (.dic false []))) (sSeq (sFor (cWalk (cLc [12] (cWalk (cV 5)) (gN 12) (cBT notInD (cV 12) (cV 1)) (cV 12))) (gN 2) (sSeq (sAsg (cLc [11] (cWalk (cIx (cV 0) (cC (.int 1)))) (gN 11) (cAndT (cBT eqD (cIx (cV 11) (cC (.int 1))) (cV 2)) (cBT inD (cIx (cV 11) (cC (.int 0))) (cV 1))) (cTup (cCons (cIx (cV 11) (cC (.int 0))) (cCons (cIx (cV 11) (cC (.int 2))) (cNil))))) (gN 8)) (sSeq (sAsg (cLc [11] (cWalk (cIx (cV 0) (cC (.int 1)))) (gN 11) (cAndT (cBT eqD (cIx (cV 11) (cC (.int 0))) (cV 2)) (cBT inD (cIx (cV 11) (cC (.int 1))) (cV 1))) (cTup (cCons (cIx (cV 11) (cC (.int 1))) (cCons (cIx (cV 11) (cC (.int 2))) (cNil))))) (gN 9)) (sSeq (sAsg (cOr (cFn "_law_two" (cCons (cV 8) (cCons (cV 1) (cCons (cC (.bl false)) (cNil))))) (cFn "_law_two" (cCons (cV 9) (cCons (cV 1) (cCons (cC (.bl true)) (cNil)))))) (gN 10)) (sSeq (sIf (cBT isntD (cV 10) (cC (.non))) (sSeq (sPut 7 (cV 2) (cTup (cCons (cIx (cV 10) (cC (.int 0))) (cCons (cV 6) (cCons (cSl (cV 10) (cPart (cC (.int 1))) (cNone)) (cNil)))))) (sNil)) (sNil)) (sNil)))))) (sSeq (sUpd 1 (cV 7)) (sNil)))))) (sSeq (sRet (cV 1)) (sNil))))))
noncomputable def r__law_found : DRow tab where
  x := "_law_found"
  params := defArgs (top 36)
  body := defBody (top 36)
  sc := defScope (top 36)
  N := ["survey", "where", "name", "x", "y", "names", "time", "more", "seen_by", "sees_so", "two", "row", "one"]
  ps := ["survey"]
  d := ⟨1, 13, [.F, .M, .F, .F, .F, .F, .F, .M, .F, .F, .F, .F, .F], false, b__law_found⟩
  S := ⟨by kernel_rfl, by kernel_rfl, by kernel_rfl, by decide +kernel, rfl, by decide +kernel, by decide +kernel⟩
  np := rfl
  nn := rfl
  par := rfl
  len := rfl
  bnd := fun _ _ _ _ _ _ us hl => match us, hl with | [_], _ => rfl
  cmp := by kernel_rfl
noncomputable def b_law : SS := sSeq (sFor (cWalk (cTup (cCons (cC (.int 0)) (cCons (cC (.int 2)) (cCons (cC (.int 4)) (cCons (cC (.int 6)) (cNil))))))) (gN 1) (sSeq (sAsg (cFn "_law_draws" (cCons (cV 0) (cCons (cV 1) (cCons (cC (.int 60)) (cCons (cC (.int 27720)) (cNil)))))) (gN 2)) (sSeq (sAsg (cFn "_law_survey" (cCons (cV 2) (cNil))) (gT (gsCons (gN 3) (gsCons (gN 4) (gsNil))))) (sSeq (sIf (cBT gtD (cV 1) (cC (.int 2))) (sSeq (sAsg (cFn "_law_false" (cCons (cV 3) (cCons (cFn "_law_draws" (cCons (cV 0) (cCons (cB addD (cV 1) (cC (.int 1))) (cCons (cC (.int 16)) (cCons (cC (.int 27720)) (cNil)))))) (cNil)))) (gN 3)) (sNil)) (sNil)) (sSeq (sAsg (cFn "_law_found" (cCons (cV 3) (cNil))) (gN 5)) (sSeq (sAsg (cLc [10] (cWalk (cCall (op1 sortedD) (cCons (cV 5) (cNil)))) (gN 10) (cTrue) (cB addD (cTup (cCons (cV 10) (cNil))) (cSl (cIx (cV 5) (cV 10)) (cNone) (cPart (cC (.int 2)))))) (gN 6)) (sSeq (sSetM 7 (cND (cFn "located" (cCons (cV 3) (cNil))))) (sSeq (sIf (cOrT (cBT neD (cV 7) (cV 6)) (cNotT (cTr (cU (isiD ["list"]) (cV 7))))) (sSeq (sRet (cC (.bl false))) (sNil)) (sNil)) (sSeq (sApp 7 (cC (.int 0))) (sSeq (sIf (cBT neD (cFn "located" (cCons (cV 3) (cNil))) (cV 6)) (sSeq (sRet (cC (.bl false))) (sNil)) (sNil)) (sNil))))))))))) (sSeq (sAsg (cTup (cCons (cTup (cCons (cC (.str "ann")) (cCons (cTup (cCons (cC (.int 0)) (cCons (cC (.int 0)) (cNil)))) (cNil)))) (cCons (cTup (cCons (cC (.str "bo")) (cCons (cTup (cCons (cC (.int 2)) (cCons (cC (.int 0)) (cNil)))) (cNil)))) (cNil)))) (gN 8)) (sSeq (sAsg (cTup (cCons (cTup (cCons (cC (.str "ann")) (cCons (cC (.str "box")) (cCons (cTup (cCons (cC (.int 1)) (cCons (cC (.int 1)) (cNil)))) (cNil))))) (cCons (cTup (cCons (cC (.str "bo")) (cCons (cC (.str "box")) (cCons (cTup (cCons (cB subD (cC (.int 0)) (cC (.int 1))) (cCons (cC (.int 1)) (cNil)))) (cNil))))) (cNil)))) (gN 9)) (sSeq (sSetM 7 (cND (cLst (cCons (cTup (cCons (cC (.str "ann")) (cCons (cTup (cCons (cTup (cCons (cC (.int 0)) (cCons (cC (.int 1)) (cNil)))) (cCons (cTup (cCons (cC (.int 0)) (cCons (cC (.int 1)) (cNil)))) (cNil)))) (cCons (cC (.int 0)) (cNil))))) (cCons (cTup (cCons (cC (.str "bo")) (cCons (cTup (cCons (cTup (cCons (cC (.int 2)) (cCons (cC (.int 1)) (cNil)))) (cCons (cTup (cCons (cC (.int 0)) (cCons (cC (.int 1)) (cNil)))) (cNil)))) (cCons (cC (.int 0)) (cNil))))) (cCons (cTup (cCons (cC (.str "box")) (cCons (cTup (cCons (cTup (cCons (cC (.int 1)) (cCons (cC (.int 1)) (cNil)))) (cCons (cTup (cCons (cC (.int 1)) (cCons (cC (.int 1)) (cNil)))) (cNil)))) (cCons (cC (.int 1)) (cNil))))) (cNil))))))) (sSeq (sRet (cB eqD (cFn "located" (cCons (cTup (cCons (cV 8) (cCons (cV 9) (cNil)))) (cNil))) (cV 7))) (sNil)))))
noncomputable def r_law : DRow tab where
  x := "law"
  params := defArgs (top 37)
  body := defBody (top 37)
  sc := defScope (top 37)
  N := ["script", "at", "draws", "survey", "stands", "where", "due", "told", "known", "rows", "name"]
  ps := ["script"]
  d := ⟨1, 11, [.F, .F, .F, .F, .F, .F, .F, .M, .F, .F, .F], false, b_law⟩
  S := ⟨by kernel_rfl, by kernel_rfl, by kernel_rfl, by decide +kernel, rfl, by decide +kernel, by decide +kernel⟩
  np := rfl
  nn := rfl
  par := rfl
  len := rfl
  bnd := fun _ _ _ _ _ _ us hl => match us, hl with | [_], _ => rfl
  cmp := by kernel_rfl
noncomputable def rows : List (DRow tab) := [r_divisor, r_frac, r_plus, r_minus, r_times, r_whole, r_direction, r_is_on, r_meet, r_contrary, r_stand, r_lookers_of, r_marks_of, r_first_two, r_next_found, r_all_found, r_located, r__law_cell, r__law_draws, r__law_by, r__law_ratio, r__law_sum, r__law_less, r__law_prod, r__law_cross, r__law_joint, r__law_lowest, r__law_names, r__law_spread, r__law_survey, r__law_false, r__law_two, r__law_found, r_law]
theorem fns_eq : tab.fns = fnsOf rows := rfl
def d_divisor : He.DefD := ⟨("divisor", none), "divisor", "divisor", defArgs (top 1), defBody (top 1), defScope (top 1), [], []⟩
def d_frac : He.DefD := ⟨("frac", none), "frac", "frac", defArgs (top 3), defBody (top 3), defScope (top 3), [], []⟩
def d_plus : He.DefD := ⟨("plus", none), "plus", "plus", defArgs (top 4), defBody (top 4), defScope (top 4), [], []⟩
def d_minus : He.DefD := ⟨("minus", none), "minus", "minus", defArgs (top 5), defBody (top 5), defScope (top 5), [], []⟩
def d_times : He.DefD := ⟨("times", none), "times", "times", defArgs (top 6), defBody (top 6), defScope (top 6), [], []⟩
def d_whole : He.DefD := ⟨("whole", none), "whole", "whole", defArgs (top 7), defBody (top 7), defScope (top 7), [], []⟩
def d_direction : He.DefD := ⟨("direction", none), "direction", "direction", defArgs (top 8), defBody (top 8), defScope (top 8), [], []⟩
def d_is_on : He.DefD := ⟨("is_on", none), "is_on", "is_on", defArgs (top 9), defBody (top 9), defScope (top 9), [], []⟩
def d_meet : He.DefD := ⟨("meet", none), "meet", "meet", defArgs (top 10), defBody (top 10), defScope (top 10), [], []⟩
def d_contrary : He.DefD := ⟨("contrary", none), "contrary", "contrary", defArgs (top 11), defBody (top 11), defScope (top 11), [], []⟩
def d_stand : He.DefD := ⟨("stand", none), "stand", "stand", defArgs (top 12), defBody (top 12), defScope (top 12), [], []⟩
def d_lookers_of : He.DefD := ⟨("lookers_of", none), "lookers_of", "lookers_of", defArgs (top 14), defBody (top 14), defScope (top 14), [], []⟩
def d_marks_of : He.DefD := ⟨("marks_of", none), "marks_of", "marks_of", defArgs (top 15), defBody (top 15), defScope (top 15), [], []⟩
def d_first_two : He.DefD := ⟨("first_two", none), "first_two", "first_two", defArgs (top 16), defBody (top 16), defScope (top 16), [], []⟩
def d_next_found : He.DefD := ⟨("next_found", none), "next_found", "next_found", defArgs (top 17), defBody (top 17), defScope (top 17), [], []⟩
def d_all_found : He.DefD := ⟨("all_found", none), "all_found", "all_found", defArgs (top 18), defBody (top 18), defScope (top 18), [], []⟩
def d_located : He.DefD := ⟨("located", none), "located", "located", defArgs (top 19), defBody (top 19), defScope (top 19), [], []⟩
def d__law_cell : He.DefD := ⟨("_law_cell", none), "_law_cell", "_law_cell", defArgs (top 21), defBody (top 21), defScope (top 21), [], []⟩
def d__law_draws : He.DefD := ⟨("_law_draws", none), "_law_draws", "_law_draws", defArgs (top 22), defBody (top 22), defScope (top 22), [], []⟩
def d__law_by : He.DefD := ⟨("_law_by", none), "_law_by", "_law_by", defArgs (top 23), defBody (top 23), defScope (top 23), [], []⟩
def d__law_ratio : He.DefD := ⟨("_law_ratio", none), "_law_ratio", "_law_ratio", defArgs (top 24), defBody (top 24), defScope (top 24), [], []⟩
def d__law_sum : He.DefD := ⟨("_law_sum", none), "_law_sum", "_law_sum", defArgs (top 25), defBody (top 25), defScope (top 25), [], []⟩
def d__law_less : He.DefD := ⟨("_law_less", none), "_law_less", "_law_less", defArgs (top 26), defBody (top 26), defScope (top 26), [], []⟩
def d__law_prod : He.DefD := ⟨("_law_prod", none), "_law_prod", "_law_prod", defArgs (top 27), defBody (top 27), defScope (top 27), [], []⟩
def d__law_cross : He.DefD := ⟨("_law_cross", none), "_law_cross", "_law_cross", defArgs (top 28), defBody (top 28), defScope (top 28), [], []⟩
def d__law_joint : He.DefD := ⟨("_law_joint", none), "_law_joint", "_law_joint", defArgs (top 29), defBody (top 29), defScope (top 29), [], []⟩
def d__law_lowest : He.DefD := ⟨("_law_lowest", none), "_law_lowest", "_law_lowest", defArgs (top 30), defBody (top 30), defScope (top 30), [], []⟩
def d__law_names : He.DefD := ⟨("_law_names", none), "_law_names", "_law_names", defArgs (top 31), defBody (top 31), defScope (top 31), [], []⟩
def d__law_spread : He.DefD := ⟨("_law_spread", none), "_law_spread", "_law_spread", defArgs (top 32), defBody (top 32), defScope (top 32), [], []⟩
def d__law_survey : He.DefD := ⟨("_law_survey", none), "_law_survey", "_law_survey", defArgs (top 33), defBody (top 33), defScope (top 33), [], []⟩
def d__law_false : He.DefD := ⟨("_law_false", none), "_law_false", "_law_false", defArgs (top 34), defBody (top 34), defScope (top 34), [], []⟩
def d__law_two : He.DefD := ⟨("_law_two", none), "_law_two", "_law_two", defArgs (top 35), defBody (top 35), defScope (top 35), [], []⟩
def d__law_found : He.DefD := ⟨("_law_found", none), "_law_found", "_law_found", defArgs (top 36), defBody (top 36), defScope (top 36), [], []⟩
def d_law : He.DefD := ⟨("law", none), "law", "law", defArgs (top 37), defBody (top 37), defScope (top 37), [], []⟩
def dfn : List He.DefD := [d_divisor, d_frac, d_plus, d_minus, d_times, d_whole, d_direction, d_is_on, d_meet, d_contrary, d_stand, d_lookers_of, d_marks_of, d_first_two, d_next_found, d_all_found, d_located, d__law_cell, d__law_draws, d__law_by, d__law_ratio, d__law_sum, d__law_less, d__law_prod, d__law_cross, d__law_joint, d__law_lowest, d__law_names, d__law_spread, d__law_survey, d__law_false, d__law_two, d__law_found, d_law]
def dfa : List He.Fa := (.glo "divisor" :: .glo "frac" :: .glo "plus" :: .glo "minus" :: .glo "times" :: .glo "whole" :: .glo "direction" :: .glo "is_on" :: .glo "meet" :: .glo "contrary" :: .glo "stand" :: .glo "lookers_of" :: .glo "marks_of" :: .glo "first_two" :: .glo "next_found" :: .glo "all_found" :: .glo "located" :: .glo "_law_cell" :: .glo "_law_draws" :: .glo "_law_by" :: .glo "_law_ratio" :: .glo "_law_sum" :: .glo "_law_less" :: .glo "_law_prod" :: .glo "_law_cross" :: .glo "_law_joint" :: .glo "_law_lowest" :: .glo "_law_names" :: .glo "_law_spread" :: .glo "_law_survey" :: .glo "_law_false" :: .glo "_law_two" :: .glo "_law_found" :: .glo "law" :: .free "abs" :: .free "sorted" :: .free "enumerate" :: .free "len" :: .free "range" :: .free "tuple" :: .free "set" :: .free "isinstance" :: .free "list" :: [])
def loose0 : List PySem.Str := ["divisor", "frac", "plus", "minus", "times", "whole", "direction", "is_on", "meet", "contrary", "stand", "lookers_of", "marks_of", "first_two", "next_found", "all_found", "located", "_law_cell", "_law_draws", "_law_by", "_law_ratio", "_law_sum", "_law_less", "_law_prod", "_law_cross", "_law_joint", "_law_lowest", "_law_names", "_law_spread", "_law_survey"]
def loose1 : List PySem.Str := ["_law_false", "_law_two", "_law_found"]
def loose : List PySem.Str := loose0 ++ loose1
abbrev R0 : PySem.W.OpenRow := PySem.W.OpenLaw.row rw0
abbrev hk : PySem.W.Hook := He.hookD 4 dfa dfn
def ob (s : PySem.W.SharedT) : He.AlD := He.obsDG 4 dfa dfn (HandSHeadRun.getT s)
theorem ob_eq (s : PySem.W.SharedT) : ob s = hk.obs s.abs := He.obsDG_eq (HandSHeadRun.getT_eq s)
theorem run (w : World) : HandSHeadRun.RunEq R0 (PySem.W.view R0.prog [37]) hk ob 4000 loose w := by
  intro os
  kernel_rfl
theorem facts {P : Program} {w : World} {K : PySem.W.Frag} {h : Heap} {mg : Str → Option Value} {f : Addr} (X : K.In h) (G : h.Ns mainGlobals mg) (hfa : mg ("law" : Str) = some (.ref f)) (c : He.SaysD dfa dfn K) (n : Nat) :
    ∃ fd : FuncData, (∀ (s : Shared) (v : Value), BindsTo s fd ⟨[v], []⟩ [("script", v)]) ∧ ∀ base : Heap, (filt K).In base → base.Ns mainGlobals mg → FnOk P w (filt K) mg base CX0 n f fd ["script"] (spF mg ⟨[.F], false⟩ (lvl (DT rows) n) "law") := by
  have hd : ∀ r ∈ rows, ∃ f fd, FunD (filt K) r.x r.x r.params r.body r.sc [] [] f fd ∧ mg r.x = some (.ref f) := by
    intro r hr
    simp only [rows, List.mem_cons, List.not_mem_nil, or_false] at hr
    rcases hr with rfl | rfl | rfl | rfl | rfl | rfl | rfl | rfl | rfl | rfl | rfl | rfl | rfl | rfl | rfl | rfl | rfl | rfl | rfl | rfl | rfl | rfl | rfl | rfl | rfl | rfl | rfl | rfl | rfl | rfl | rfl | rfl | rfl | rfl
    · obtain ⟨fd, F⟩ := c.def_ 0 (d := d_divisor) rfl; exact ⟨_, fd, FunD.filt F, He.glo_ok X G (c.fact 0 (f := .glo "divisor") rfl)⟩
    · obtain ⟨fd, F⟩ := c.def_ 1 (d := d_frac) rfl; exact ⟨_, fd, FunD.filt F, He.glo_ok X G (c.fact 1 (f := .glo "frac") rfl)⟩
    · obtain ⟨fd, F⟩ := c.def_ 2 (d := d_plus) rfl; exact ⟨_, fd, FunD.filt F, He.glo_ok X G (c.fact 2 (f := .glo "plus") rfl)⟩
    · obtain ⟨fd, F⟩ := c.def_ 3 (d := d_minus) rfl; exact ⟨_, fd, FunD.filt F, He.glo_ok X G (c.fact 3 (f := .glo "minus") rfl)⟩
    · obtain ⟨fd, F⟩ := c.def_ 4 (d := d_times) rfl; exact ⟨_, fd, FunD.filt F, He.glo_ok X G (c.fact 4 (f := .glo "times") rfl)⟩
    · obtain ⟨fd, F⟩ := c.def_ 5 (d := d_whole) rfl; exact ⟨_, fd, FunD.filt F, He.glo_ok X G (c.fact 5 (f := .glo "whole") rfl)⟩
    · obtain ⟨fd, F⟩ := c.def_ 6 (d := d_direction) rfl; exact ⟨_, fd, FunD.filt F, He.glo_ok X G (c.fact 6 (f := .glo "direction") rfl)⟩
    · obtain ⟨fd, F⟩ := c.def_ 7 (d := d_is_on) rfl; exact ⟨_, fd, FunD.filt F, He.glo_ok X G (c.fact 7 (f := .glo "is_on") rfl)⟩
    · obtain ⟨fd, F⟩ := c.def_ 8 (d := d_meet) rfl; exact ⟨_, fd, FunD.filt F, He.glo_ok X G (c.fact 8 (f := .glo "meet") rfl)⟩
    · obtain ⟨fd, F⟩ := c.def_ 9 (d := d_contrary) rfl; exact ⟨_, fd, FunD.filt F, He.glo_ok X G (c.fact 9 (f := .glo "contrary") rfl)⟩
    · obtain ⟨fd, F⟩ := c.def_ 10 (d := d_stand) rfl; exact ⟨_, fd, FunD.filt F, He.glo_ok X G (c.fact 10 (f := .glo "stand") rfl)⟩
    · obtain ⟨fd, F⟩ := c.def_ 11 (d := d_lookers_of) rfl; exact ⟨_, fd, FunD.filt F, He.glo_ok X G (c.fact 11 (f := .glo "lookers_of") rfl)⟩
    · obtain ⟨fd, F⟩ := c.def_ 12 (d := d_marks_of) rfl; exact ⟨_, fd, FunD.filt F, He.glo_ok X G (c.fact 12 (f := .glo "marks_of") rfl)⟩
    · obtain ⟨fd, F⟩ := c.def_ 13 (d := d_first_two) rfl; exact ⟨_, fd, FunD.filt F, He.glo_ok X G (c.fact 13 (f := .glo "first_two") rfl)⟩
    · obtain ⟨fd, F⟩ := c.def_ 14 (d := d_next_found) rfl; exact ⟨_, fd, FunD.filt F, He.glo_ok X G (c.fact 14 (f := .glo "next_found") rfl)⟩
    · obtain ⟨fd, F⟩ := c.def_ 15 (d := d_all_found) rfl; exact ⟨_, fd, FunD.filt F, He.glo_ok X G (c.fact 15 (f := .glo "all_found") rfl)⟩
    · obtain ⟨fd, F⟩ := c.def_ 16 (d := d_located) rfl; exact ⟨_, fd, FunD.filt F, He.glo_ok X G (c.fact 16 (f := .glo "located") rfl)⟩
    · obtain ⟨fd, F⟩ := c.def_ 17 (d := d__law_cell) rfl; exact ⟨_, fd, FunD.filt F, He.glo_ok X G (c.fact 17 (f := .glo "_law_cell") rfl)⟩
    · obtain ⟨fd, F⟩ := c.def_ 18 (d := d__law_draws) rfl; exact ⟨_, fd, FunD.filt F, He.glo_ok X G (c.fact 18 (f := .glo "_law_draws") rfl)⟩
    · obtain ⟨fd, F⟩ := c.def_ 19 (d := d__law_by) rfl; exact ⟨_, fd, FunD.filt F, He.glo_ok X G (c.fact 19 (f := .glo "_law_by") rfl)⟩
    · obtain ⟨fd, F⟩ := c.def_ 20 (d := d__law_ratio) rfl; exact ⟨_, fd, FunD.filt F, He.glo_ok X G (c.fact 20 (f := .glo "_law_ratio") rfl)⟩
    · obtain ⟨fd, F⟩ := c.def_ 21 (d := d__law_sum) rfl; exact ⟨_, fd, FunD.filt F, He.glo_ok X G (c.fact 21 (f := .glo "_law_sum") rfl)⟩
    · obtain ⟨fd, F⟩ := c.def_ 22 (d := d__law_less) rfl; exact ⟨_, fd, FunD.filt F, He.glo_ok X G (c.fact 22 (f := .glo "_law_less") rfl)⟩
    · obtain ⟨fd, F⟩ := c.def_ 23 (d := d__law_prod) rfl; exact ⟨_, fd, FunD.filt F, He.glo_ok X G (c.fact 23 (f := .glo "_law_prod") rfl)⟩
    · obtain ⟨fd, F⟩ := c.def_ 24 (d := d__law_cross) rfl; exact ⟨_, fd, FunD.filt F, He.glo_ok X G (c.fact 24 (f := .glo "_law_cross") rfl)⟩
    · obtain ⟨fd, F⟩ := c.def_ 25 (d := d__law_joint) rfl; exact ⟨_, fd, FunD.filt F, He.glo_ok X G (c.fact 25 (f := .glo "_law_joint") rfl)⟩
    · obtain ⟨fd, F⟩ := c.def_ 26 (d := d__law_lowest) rfl; exact ⟨_, fd, FunD.filt F, He.glo_ok X G (c.fact 26 (f := .glo "_law_lowest") rfl)⟩
    · obtain ⟨fd, F⟩ := c.def_ 27 (d := d__law_names) rfl; exact ⟨_, fd, FunD.filt F, He.glo_ok X G (c.fact 27 (f := .glo "_law_names") rfl)⟩
    · obtain ⟨fd, F⟩ := c.def_ 28 (d := d__law_spread) rfl; exact ⟨_, fd, FunD.filt F, He.glo_ok X G (c.fact 28 (f := .glo "_law_spread") rfl)⟩
    · obtain ⟨fd, F⟩ := c.def_ 29 (d := d__law_survey) rfl; exact ⟨_, fd, FunD.filt F, He.glo_ok X G (c.fact 29 (f := .glo "_law_survey") rfl)⟩
    · obtain ⟨fd, F⟩ := c.def_ 30 (d := d__law_false) rfl; exact ⟨_, fd, FunD.filt F, He.glo_ok X G (c.fact 30 (f := .glo "_law_false") rfl)⟩
    · obtain ⟨fd, F⟩ := c.def_ 31 (d := d__law_two) rfl; exact ⟨_, fd, FunD.filt F, He.glo_ok X G (c.fact 31 (f := .glo "_law_two") rfl)⟩
    · obtain ⟨fd, F⟩ := c.def_ 32 (d := d__law_found) rfl; exact ⟨_, fd, FunD.filt F, He.glo_ok X G (c.fact 32 (f := .glo "_law_found") rfl)⟩
    · obtain ⟨fd, F⟩ := c.def_ 33 (d := d_law) rfl; exact ⟨_, fd, FunD.filt F, He.glo_ok X G (c.fact 33 (f := .glo "law") rfl)⟩
  have hg : ∀ x d, tab.glb.lookup x = some d → ∃ v u, constV d = some v ∧ mg x = some u ∧ RelV v u := by
    refine glb_all ?_
    intro p hp
    simp only [tab, List.mem_cons, List.not_mem_nil, or_false] at hp
  have hb : ∀ x, x ∈ tab.blt → mg x = none := by
    intro x hx
    simp only [tab, List.mem_cons, List.not_mem_nil, or_false] at hx
    rcases hx with rfl | rfl | rfl | rfl | rfl | rfl | rfl | rfl | rfl
    · exact He.free_ok X G (c.fact 34 (f := .free "abs") rfl)
    · exact He.free_ok X G (c.fact 35 (f := .free "sorted") rfl)
    · exact He.free_ok X G (c.fact 36 (f := .free "enumerate") rfl)
    · exact He.free_ok X G (c.fact 37 (f := .free "len") rfl)
    · exact He.free_ok X G (c.fact 38 (f := .free "range") rfl)
    · exact He.free_ok X G (c.fact 39 (f := .free "tuple") rfl)
    · exact He.free_ok X G (c.fact 40 (f := .free "set") rfl)
    · exact He.free_ok X G (c.fact 41 (f := .free "isinstance") rfl)
    · exact He.free_ok X G (c.fact 42 (f := .free "list") rfl)
  obtain ⟨fd, F⟩ := c.def_ 33 (d := d_law) rfl
  have e := hfa.symm.trans (He.glo_ok X G (c.fact 33 (f := .glo "law") rfl))
  cases e
  have b := FunD.bindsA (ps := ["script"]) F fun _ _ _ _ _ _ us hl => match us, hl with | [_], _ => rfl
  refine ⟨fd, fun s v => b s [v] rfl, fun base _ _ => ?_⟩
  exact law_fn (rows := rows) (r := r_law) fns_eq hd hg hb ⟨by kernel_rfl, by kernel_rfl, rfl, rfl⟩ (FunD.filt F)
theorem v_divisor (n : Nat) (x0 x1 : D) : lvl (DT rows) (n + 1) "divisor" [x0, x1] = (b_divisor (lvl (DT rows) n) [some x0, some x1]).bind (fin false) := by
  have e : DT rows "divisor" = some r_divisor.d := by kernel_rfl
  simp only [lvl, e]
  rfl
theorem v_frac (n : Nat) (x0 x1 : D) : lvl (DT rows) (n + 1) "frac" [x0, x1] = (b_frac (lvl (DT rows) n) [some x0, some x1, none]).bind (fin false) := by
  have e : DT rows "frac" = some r_frac.d := by kernel_rfl
  simp only [lvl, e]
  rfl
theorem v_plus (n : Nat) (x0 x1 : D) : lvl (DT rows) (n + 1) "plus" [x0, x1] = (b_plus (lvl (DT rows) n) [some x0, some x1]).bind (fin false) := by
  have e : DT rows "plus" = some r_plus.d := by kernel_rfl
  simp only [lvl, e]
  rfl
theorem v_minus (n : Nat) (x0 x1 : D) : lvl (DT rows) (n + 1) "minus" [x0, x1] = (b_minus (lvl (DT rows) n) [some x0, some x1]).bind (fin false) := by
  have e : DT rows "minus" = some r_minus.d := by kernel_rfl
  simp only [lvl, e]
  rfl
theorem v_times (n : Nat) (x0 x1 : D) : lvl (DT rows) (n + 1) "times" [x0, x1] = (b_times (lvl (DT rows) n) [some x0, some x1]).bind (fin false) := by
  have e : DT rows "times" = some r_times.d := by kernel_rfl
  simp only [lvl, e]
  rfl
theorem v_whole (n : Nat) (x0 : D) : lvl (DT rows) (n + 1) "whole" [x0] = (b_whole (lvl (DT rows) n) [some x0]).bind (fin false) := by
  have e : DT rows "whole" = some r_whole.d := by kernel_rfl
  simp only [lvl, e]
  rfl
theorem v_direction (n : Nat) (x0 x1 : D) : lvl (DT rows) (n + 1) "direction" [x0, x1] = (b_direction (lvl (DT rows) n) [some x0, some x1, none, none, none, none, none]).bind (fin false) := by
  have e : DT rows "direction" = some r_direction.d := by kernel_rfl
  simp only [lvl, e]
  rfl
theorem v_is_on (n : Nat) (x0 x1 x2 : D) : lvl (DT rows) (n + 1) "is_on" [x0, x1, x2] = (b_is_on (lvl (DT rows) n) [some x0, some x1, some x2]).bind (fin false) := by
  have e : DT rows "is_on" = some r_is_on.d := by kernel_rfl
  simp only [lvl, e]
  rfl
theorem v_meet (n : Nat) (x0 x1 x2 x3 : D) : lvl (DT rows) (n + 1) "meet" [x0, x1, x2, x3] = (b_meet (lvl (DT rows) n) [some x0, some x1, some x2, some x3, none, none, none, none, none]).bind (fin false) := by
  have e : DT rows "meet" = some r_meet.d := by kernel_rfl
  simp only [lvl, e]
  rfl
theorem v_contrary (n : Nat) (x0 : D) : lvl (DT rows) (n + 1) "contrary" [x0] = (b_contrary (lvl (DT rows) n) [some x0]).bind (fin false) := by
  have e : DT rows "contrary" = some r_contrary.d := by kernel_rfl
  simp only [lvl, e]
  rfl
theorem v_stand (n : Nat) (x0 x1 x2 x3 : D) : lvl (DT rows) (n + 1) "stand" [x0, x1, x2, x3] = (b_stand (lvl (DT rows) n) [some x0, some x1, some x2, some x3]).bind (fin false) := by
  have e : DT rows "stand" = some r_stand.d := by kernel_rfl
  simp only [lvl, e]
  rfl
theorem v_lookers_of (n : Nat) (x0 : D) : lvl (DT rows) (n + 1) "lookers_of" [x0] = (b_lookers_of (lvl (DT rows) n) [some x0, none]).bind (fin false) := by
  have e : DT rows "lookers_of" = some r_lookers_of.d := by kernel_rfl
  simp only [lvl, e]
  rfl
theorem v_marks_of (n : Nat) (x0 : D) : lvl (DT rows) (n + 1) "marks_of" [x0] = (b_marks_of (lvl (DT rows) n) [some x0, none]).bind (fin false) := by
  have e : DT rows "marks_of" = some r_marks_of.d := by kernel_rfl
  simp only [lvl, e]
  rfl
theorem v_first_two (n : Nat) (x0 x1 x2 : D) : lvl (DT rows) (n + 1) "first_two" [x0, x1, x2] = (b_first_two (lvl (DT rows) n) [some x0, some x1, some x2, none, none, none, none, none, none]).bind (fin false) := by
  have e : DT rows "first_two" = some r_first_two.d := by kernel_rfl
  simp only [lvl, e]
  rfl
theorem v_next_found (n : Nat) (x0 x1 : D) : lvl (DT rows) (n + 1) "next_found" [x0, x1] = (b_next_found (lvl (DT rows) n) [some x0, some x1, none, none, none, none, none, none, none, none]).bind (fin false) := by
  have e : DT rows "next_found" = some r_next_found.d := by kernel_rfl
  simp only [lvl, e]
  rfl
theorem v_all_found (n : Nat) (x0 : D) : lvl (DT rows) (n + 1) "all_found" [x0] = (b_all_found (lvl (DT rows) n) [some x0, none, none, none, none, none, none, none, none]).bind (fin false) := by
  have e : DT rows "all_found" = some r_all_found.d := by kernel_rfl
  simp only [lvl, e]
  rfl
theorem v_located (n : Nat) (x0 : D) : lvl (DT rows) (n + 1) "located" [x0] = (b_located (lvl (DT rows) n) [some x0, none, none]).bind (fin true) := by
  have e : DT rows "located" = some r_located.d := by kernel_rfl
  simp only [lvl, e]
  rfl
theorem v__law_cell (n : Nat) (x0 x1 : D) : lvl (DT rows) (n + 1) "_law_cell" [x0, x1] = (b__law_cell (lvl (DT rows) n) [some x0, some x1]).bind (fin false) := by
  have e : DT rows "_law_cell" = some r__law_cell.d := by kernel_rfl
  simp only [lvl, e]
  rfl
theorem v__law_draws (n : Nat) (x0 x1 x2 x3 : D) : lvl (DT rows) (n + 1) "_law_draws" [x0, x1, x2, x3] = (b__law_draws (lvl (DT rows) n) [some x0, some x1, some x2, some x3, none, none, none, none, none, none]).bind (fin false) := by
  have e : DT rows "_law_draws" = some r__law_draws.d := by kernel_rfl
  simp only [lvl, e]
  rfl
theorem v__law_by (n : Nat) (x0 x1 : D) : lvl (DT rows) (n + 1) "_law_by" [x0, x1] = (b__law_by (lvl (DT rows) n) [some x0, some x1]).bind (fin false) := by
  have e : DT rows "_law_by" = some r__law_by.d := by kernel_rfl
  simp only [lvl, e]
  rfl
theorem v__law_ratio (n : Nat) (x0 x1 : D) : lvl (DT rows) (n + 1) "_law_ratio" [x0, x1] = (b__law_ratio (lvl (DT rows) n) [some x0, some x1, none]).bind (fin false) := by
  have e : DT rows "_law_ratio" = some r__law_ratio.d := by kernel_rfl
  simp only [lvl, e]
  rfl
theorem v__law_sum (n : Nat) (x0 x1 : D) : lvl (DT rows) (n + 1) "_law_sum" [x0, x1] = (b__law_sum (lvl (DT rows) n) [some x0, some x1]).bind (fin false) := by
  have e : DT rows "_law_sum" = some r__law_sum.d := by kernel_rfl
  simp only [lvl, e]
  rfl
theorem v__law_less (n : Nat) (x0 x1 : D) : lvl (DT rows) (n + 1) "_law_less" [x0, x1] = (b__law_less (lvl (DT rows) n) [some x0, some x1]).bind (fin false) := by
  have e : DT rows "_law_less" = some r__law_less.d := by kernel_rfl
  simp only [lvl, e]
  rfl
theorem v__law_prod (n : Nat) (x0 x1 : D) : lvl (DT rows) (n + 1) "_law_prod" [x0, x1] = (b__law_prod (lvl (DT rows) n) [some x0, some x1]).bind (fin false) := by
  have e : DT rows "_law_prod" = some r__law_prod.d := by kernel_rfl
  simp only [lvl, e]
  rfl
theorem v__law_cross (n : Nat) (x0 x1 : D) : lvl (DT rows) (n + 1) "_law_cross" [x0, x1] = (b__law_cross (lvl (DT rows) n) [some x0, some x1]).bind (fin false) := by
  have e : DT rows "_law_cross" = some r__law_cross.d := by kernel_rfl
  simp only [lvl, e]
  rfl
theorem v__law_joint (n : Nat) (x0 x1 x2 x3 : D) : lvl (DT rows) (n + 1) "_law_joint" [x0, x1, x2, x3] = (b__law_joint (lvl (DT rows) n) [some x0, some x1, some x2, some x3, none, none, none, none, none]).bind (fin false) := by
  have e : DT rows "_law_joint" = some r__law_joint.d := by kernel_rfl
  simp only [lvl, e]
  rfl
theorem v__law_lowest (n : Nat) (x0 : D) : lvl (DT rows) (n + 1) "_law_lowest" [x0] = (b__law_lowest (lvl (DT rows) n) [some x0, none]).bind (fin false) := by
  have e : DT rows "_law_lowest" = some r__law_lowest.d := by kernel_rfl
  simp only [lvl, e]
  rfl
theorem v__law_names (n : Nat) : lvl (DT rows) (n + 1) "_law_names" [] = (b__law_names (lvl (DT rows) n) []).bind (fin false) := by
  have e : DT rows "_law_names" = some r__law_names.d := by kernel_rfl
  simp only [lvl, e]
  rfl
theorem v__law_spread (n : Nat) (x0 : D) : lvl (DT rows) (n + 1) "_law_spread" [x0] = (b__law_spread (lvl (DT rows) n) [some x0, none, none, none]).bind (fin false) := by
  have e : DT rows "_law_spread" = some r__law_spread.d := by kernel_rfl
  simp only [lvl, e]
  rfl
theorem v__law_survey (n : Nat) (x0 : D) : lvl (DT rows) (n + 1) "_law_survey" [x0] = (b__law_survey (lvl (DT rows) n) [some x0, none, none, none, none, none, none, none, none, none]).bind (fin false) := by
  have e : DT rows "_law_survey" = some r__law_survey.d := by kernel_rfl
  simp only [lvl, e]
  rfl
theorem v__law_false (n : Nat) (x0 x1 : D) : lvl (DT rows) (n + 1) "_law_false" [x0, x1] = (b__law_false (lvl (DT rows) n) [some x0, some x1, none, none, none, none, none, none, none, none]).bind (fin false) := by
  have e : DT rows "_law_false" = some r__law_false.d := by kernel_rfl
  simp only [lvl, e]
  rfl
theorem v__law_two (n : Nat) (x0 x1 x2 : D) : lvl (DT rows) (n + 1) "_law_two" [x0, x1, x2] = (b__law_two (lvl (DT rows) n) [some x0, some x1, some x2, none, none, none, none, none, none, none, none]).bind (fin false) := by
  have e : DT rows "_law_two" = some r__law_two.d := by kernel_rfl
  simp only [lvl, e]
  rfl
theorem v__law_found (n : Nat) (x0 : D) : lvl (DT rows) (n + 1) "_law_found" [x0] = (b__law_found (lvl (DT rows) n) [some x0, none, none, none, none, none, none, none, none, none, none, none, none]).bind (fin false) := by
  have e : DT rows "_law_found" = some r__law_found.d := by kernel_rfl
  simp only [lvl, e]
  rfl
theorem v_law (n : Nat) (x0 : D) : lvl (DT rows) (n + 1) "law" [x0] = (b_law (lvl (DT rows) n) [some x0, none, none, none, none, none, none, none, none, none, none]).bind (fin false) := by
  have e : DT rows "law" = some r_law.d := by kernel_rfl
  simp only [lvl, e]
  rfl
end L

open PySem PySem.W PySem.Calls PyProof.Rows in
theorem law_holds (n : Nat) (hr : L2.Room n callerA) (hlaw : ∀ ns : List Int, ns.length ≤ 63 → RE.lvl (RE.DT L.rows) n "law" [RE.D.scr ns] = some (RE.D.bl true)) : PySem.Challenge.rw_rigeyes_k04_located.Holds := by
  w_on; o_law
  refine HandSHeadRun.head_any (r := L.R0) (q := PySem.W.view L.R0.prog [37]) (H := L.hk) (ob := L.ob) (M := 4000) (loose := L.loose) (d := HandSHeadRun.topDef L.R0.prog 37) (kwd := []) L.ob_eq
    (by kernel_rfl) (fun s => by kernel_rfl) L.run (by kernel_rfl) (by kernel_rfl) (by kernel_rfl) (by rfl) (by first | assumption | decide +kernel) (by decide +kernel) ⟨rfl, rfl, rfl, rfl, rfl, by decide +kernel⟩ ?hw ?hc
  case hw => w_witness2
  case hc =>
    refine L2.walk_ofE (l := L.rw0) (n := 63) (k := n) (x := "script") (CX := L2.CX0) rfl (by decide) (by kernel_rfl) hr ?F (fun _ _ _ _ z => z)
    intro w mg fa h Y G hmg0
    obtain ⟨K, KX, c⟩ := Y
    have hmg : mg ("law" : PySem.Str) = some (.ref fa) := by
      have e : (HandSHeadRun.topDef L.R0.prog 37).name = ("law" : PySem.Str) := by kernel_rfl
      rw [← e]
      exact hmg0
    obtain ⟨fd, hb, hF⟩ := L.facts (P := L.rw0.prog) (w := w) KX G hmg c n
    exact ⟨RE.filt K, fd, _, RE.filt_in KX, hb, fun H a ns hl ho hS => RE.law_sp ho hS (hlaw ns hl), hF⟩
section
open PySem PySem.Spec PyProof.Rows L2 RE
namespace RE
theorem obS {α β : Type} (a : α) (f : α → Option β) : (some a).bind f = f a := (rfl)
theorem omS {α β : Type} (a : α) (f : α → β) : (some a).map f = some (f a) := (rfl)
/-! Part B: evaluation -/
section
variable (F : Fn) (ρ : RE.Env)
@[simp] theorem s_sSeq (f g : SS) : sSeq f g F ρ = (f F ρ).bind fun r => match r with | .nx ρ' => g F ρ' | .rt b d => some (.rt b d) := (rfl)
@[simp] theorem s_sNil : sNil F ρ = some (.nx ρ) := (rfl)
@[simp] theorem s_sRet (f : SE) : sRet f F ρ = (f F ρ).map (.rt false) := (rfl)
@[simp] theorem s_sRetT (f : SE) : sRetT f F ρ = (f F ρ).map (.rt true) := (rfl)
@[simp] theorem s_sIf (c : SB) (f g : SS) : sIf c f g F ρ = (c F ρ).bind fun b => if b then f F ρ else g F ρ := (rfl)
@[simp] theorem s_sAsg (f : SE) (a : SG) : sAsg f a F ρ = (f F ρ).bind fun d => (a d ρ).map .nx := (rfl)
@[simp] theorem s_sPar (is : List Nat) (f : SA) : sPar is f F ρ = (f F ρ).map fun ds => .nx (setAll ρ is ds) := (rfl)
@[simp] theorem s_sSetM (i : Nat) (f : SE) : sSetM i f F ρ = (f F ρ).map fun d => .nx (ρ.set i (some d)) := (rfl)
@[simp] theorem s_cND (f : SE) : cND f F ρ = (f F ρ).bind fun d => if isDic d then none else some d := (rfl)
@[simp] theorem s_cC (d : D) : cC d F ρ = some d := (rfl)
@[simp] theorem s_cB (o : D → D → Option D) (f g : SE) : cB o f g F ρ = (f F ρ).bind fun x => (g F ρ).bind fun y => o x y := (rfl)
@[simp] theorem s_cU (o : D → Option D) (f : SE) : cU o f F ρ = (f F ρ).bind o := (rfl)
@[simp] theorem s_cTup (g : SA) : cTup g F ρ = (g F ρ).bind mkTup := (rfl)
@[simp] theorem s_cLst (g : SA) : cLst g F ρ = (g F ρ).bind mkLst := (rfl)
@[simp] theorem s_cNil : cNil F ρ = some [] := (rfl)
@[simp] theorem s_cCons (f : SE) (g : SA) : cCons f g F ρ = (f F ρ).bind fun d => (g F ρ).bind fun ds => some (d :: ds) := (rfl)
@[simp] theorem s_cCall (o : List D → Option D) (g : SA) : cCall o g F ρ = (g F ρ).bind o := (rfl)
@[simp] theorem s_cFn (f : Str) (g : SA) : cFn f g F ρ = (g F ρ).bind fun ds => F f ds := (rfl)
@[simp] theorem s_cIx (f g : SE) : cIx f g F ρ = (f F ρ).bind fun x => (g F ρ).bind fun y => idxD x y := (rfl)
@[simp] theorem s_cAnd (f g : SE) : cAnd f g F ρ = (f F ρ).bind fun d => (truD d).bind fun b => if b then g F ρ else some d := (rfl)
@[simp] theorem s_cOr (f g : SE) : cOr f g F ρ = (f F ρ).bind fun d => (truD d).bind fun b => if b then some d else g F ρ := (rfl)
@[simp] theorem s_cNot (f : SE) : cNot f F ρ = (f F ρ).bind fun d => (truD d).map fun b => .bl (!b) := (rfl)
@[simp] theorem s_cIf (c : SB) (f g : SE) : cIf c f g F ρ = (c F ρ).bind fun b => if b then f F ρ else g F ρ := (rfl)
@[simp] theorem s_cTr (f : SE) : cTr f F ρ = (f F ρ).bind truD := (rfl)
@[simp] theorem s_cBT (o : D → D → Option D) (f g : SE) : cBT o f g F ρ = ((f F ρ).bind fun x => (g F ρ).bind fun y => o x y).bind boolD := (rfl)
@[simp] theorem s_cAndT (f g : SB) : cAndT f g F ρ = (f F ρ).bind fun b => if b then g F ρ else some false := (rfl)
@[simp] theorem s_cOrT (f g : SB) : cOrT f g F ρ = (f F ρ).bind fun b => if b then some true else g F ρ := (rfl)
@[simp] theorem s_cNotT (f : SB) : cNotT f F ρ = (f F ρ).map (!·) := (rfl)
@[simp] theorem s_cCh (o o' : D → D → Option D) (f g h : SE) : cCh o o' f g h F ρ = (f F ρ).bind fun x => (g F ρ).bind fun y => (o x y).bind fun z => (boolD z).bind fun c => if c then (h F ρ).bind fun w => o' y w else some (.bl false) := (rfl)
@[simp] theorem s_cChT (o o' : D → D → Option D) (f g h : SE) : cChT o o' f g h F ρ = (cCh o o' f g h F ρ).bind boolD := (rfl)
@[simp] theorem s_cSl (f : SE) (g h : SO) : cSl f g h F ρ = (f F ρ).bind fun d => (g F ρ).bind fun l => (h F ρ).bind fun u => slcD l u d := (rfl)
@[simp] theorem s_sFor (fi : SL) (a : SG) (b : SS) : sFor fi a b F ρ = (fi F ρ).bind fun ds => forD a (b F) ds ρ := (rfl)
@[simp] theorem s_cWalk (f : SE) : cWalk f F ρ = (f F ρ).bind walkL := (rfl)
@[simp] theorem s_cLc (own : List Nat) (fi : SL) (a : SG) (t : SB) (e : SE) : cLc own fi a t e F ρ = (fi F ρ).bind fun ds => (lcAll (lcOne a t e F (wipeE ρ own)) ds).bind mkLst := (rfl)
@[simp] theorem s_lcOne (a : SG) (t : SB) (e : SE) (d : D) : lcOne a t e F ρ d = (a d ρ).bind fun ρ' => (t F ρ').bind fun b => if b then (e F ρ').map fun y => [y] else some [] := (rfl)
@[simp] theorem s_cTrue : cTrue F ρ = some true := (rfl)
@[simp] theorem s_sApp (i : Nat) (f : SE) : sApp i f F ρ = (f F ρ).bind fun d => match cV i F ρ with
  | some (.lst xs) => if fits (xs.length + 1) then some (.nx (ρ.set i (some (.lst (xs ++ [d]))))) else none
  | _ => none := (rfl)
@[simp] theorem s_gN (i : Nat) (d : D) : gN i d ρ = some (ρ.set i (some d)) := (rfl)
@[simp] theorem s_gT (b : SGs) (ds : List D) : gT b (.tup ds) ρ = b ds ρ := (rfl)
@[simp] theorem s_gsNil : gsNil [] ρ = some ρ := (rfl)
@[simp] theorem s_gsCons (a : SG) (b : SGs) (d : D) (ds : List D) : gsCons a b (d :: ds) ρ = (a d ρ).bind (b ds) := (rfl)
end
@[simp] theorem s_cV0 (F : Fn) (d : D) (ρ : RE.Env) : cV 0 F (some d :: ρ) = some d := (rfl)
@[simp] theorem s_cVs (F : Fn) (i : Nat) (x : Option D) (ρ : RE.Env) : cV (i + 1) F (x :: ρ) = cV i F ρ := (rfl)
@[simp] theorem s_finR (b : Bool) (v : D) (nw : Bool) : fin nw (.rt b v) = if (nw && !b) = true then none else some v := (rfl)
@[simp] theorem s_finN (ρ : RE.Env) (nw : Bool) : fin nw (.nx ρ) = some .non := (rfl)
@[simp] theorem s_boolD (b : Bool) : boolD (.bl b) = some b := (rfl)
@[simp] theorem s_truB (b : Bool) : truD (.bl b) = some b := (rfl)
@[simp] theorem s_setAll0 {α : Type} (l : List (Option α)) : setAll l [] [] = l := (rfl)
@[simp] theorem s_setAll1 {α : Type} (l : List (Option α)) (i : Nat) (is : List Nat) (d : α) (ds : List α) : setAll l (i :: is) (d :: ds) = setAll (l.set i (some d)) is ds := (rfl)
@[simp] theorem s_op1 (o : D → Option D) (x : D) : op1 o [x] = o x := (rfl)
@[simp] theorem s_op2 (o : D → D → Option D) (x y : D) : op2 o [x, y] = o x y := (rfl)
@[simp] theorem s_abs (i : Int) : absD (.int i) = some (.int (if i < 0 then -i else i)) := (rfl)
@[simp] theorem s_addI (i j : Int) : addD (.int i) (.int j) = some (.int (i + j)) := (rfl)
@[simp] theorem s_subI (i j : Int) : subD (.int i) (.int j) = some (.int (i - j)) := (rfl)
theorem mod_ev {i j : Int} (h : j ≠ 0) : modD (.int i) (.int j) = some (.int (i.fmod j)) := by simp [modD, h]
@[simp] theorem mod_nat (i : Int) (j : Nat) (h : j ≠ 0 := by decide) : modD (.int i) (.int (j : Int)) = some (.int (i.fmod j)) := by simp [modD, h]
theorem fdiv_ev {i j : Int} (h : j ≠ 0) (w : wid j = true) : fdivD (.int i) (.int j) = some (.int (i.fdiv j)) := by simp [fdivD, h, w]
theorem mul_ev {i j : Int} (h : wim i = true) (w : wim j = true) : mulD (.int i) (.int j) = some (.int (i * j)) := by simp [mulD, h, w]
@[simp] theorem eqI (i j : Int) : eqD (.int i) (.int j) = some (.bl (decide (i = j))) := by
  simp [eqD, pd2, pd, eqv, toP, PyData.eqv]
  first | done | (by_cases h : i = j <;> simp [h])
@[simp] theorem neI (i j : Int) : neD (.int i) (.int j) = some (.bl (!decide (i = j))) := by
  simp [neD, pd2, pd, eqv, toP, PyData.eqv]
  first | done | (by_cases h : i = j <;> simp [h])
@[simp] theorem ltI (i j : Int) : ltD (.int i) (.int j) = some (.bl (decide (i < j))) := by
  simp [ltD, cmpOk, isNon, pd2, pd, alk, ltv, toP, PySem.W.alike, PySem.W.dataLt_int]
@[simp] theorem gtI (i j : Int) : gtD (.int i) (.int j) = some (.bl (decide (j < i))) := by
  simp [gtD, cmpOk, isNon, pd2, pd, alk, ltv, toP, PySem.W.alike, PySem.W.dataLt_int]
@[simp] theorem leI (i j : Int) : leD (.int i) (.int j) = some (.bl (decide (i ≤ j))) := by
  simp [leD, cmpOk, isNon, pd2, pd, alk, ltv, toP, PySem.W.alike, PySem.W.dataLt_int]
  first | done | (simp [← Int.not_le]) | omega
@[simp] theorem geI (i j : Int) : geD (.int i) (.int j) = some (.bl (decide (j ≤ i))) := by
  simp [geD, cmpOk, isNon, pd2, pd, alk, ltv, toP, PySem.W.alike, PySem.W.dataLt_int]
  first | done | (simp [← Int.not_le]) | omega
theorem mkTup_ev {ds : List D} (h : fits ds.length = true) : mkTup ds = some (.tup ds) := by simp [mkTup, h]
@[simp] theorem mkTup1 (a : D) : mkTup [a] = some (.tup [a]) := (rfl)
@[simp] theorem mkTup2 (a b : D) : mkTup [a, b] = some (.tup [a, b]) := (rfl)
@[simp] theorem mkTup3 (a b c : D) : mkTup [a, b, c] = some (.tup [a, b, c]) := (rfl)
@[simp] theorem idx_t0 (a : D) (l : List D) : idxD (.tup (a :: l)) (.int 0) = some a := by
  simp only [idxD, L2.atI, List.length_cons]
  simp [L2.ixN]
@[simp] theorem idx_t1 (a b : D) (l : List D) : idxD (.tup (a :: b :: l)) (.int 1) = some b := by
  have : ((1 : Int) < ((a :: b :: l).length : Int)) := by simp only [List.length_cons]; omega
  simp only [idxD, L2.atI, L2.ixN, if_pos (show (0 : Int) ≤ 1 by decide), if_pos this]
  rfl
@[simp] theorem idx_t2 (a b c : D) (l : List D) : idxD (.tup (a :: b :: c :: l)) (.int 2) = some c := by
  have : ((2 : Int) < ((a :: b :: c :: l).length : Int)) := by simp only [List.length_cons]; omega
  simp only [idxD, L2.atI, L2.ixN, if_pos (show (0 : Int) ≤ 2 by decide), if_pos this]
  rfl
end RE
namespace RE
theorem fmod_nn (a b : Nat) : Int.fmod (a : Int) (b : Int) = ((a % b : Nat) : Int) := by
  rw [Int.fmod_eq_emod_of_nonneg _ (by omega)]
  omega
/-- the loop that finds the greatest common divisor, any test that says «other is not 0» of natural numbers -/
theorem gcd_loop (F : Fn) (c : SB) (ρ : RE.Env) (hc : ∀ a b : Nat, c F (some (.int a) :: some (.int b) :: ρ) = some (!decide (b = 0))) : ∀ b a : Nat, ∃ n, whileD (c F) (sSeq (sPar [0, 1] (cCons (cV 1) (cCons (cB modD (cV 0) (cV 1)) (cNil)))) (sNil) F) n (some (.int a) :: some (.int b) :: ρ) = some (.nx (some (.int (Nat.gcd a b : Nat)) :: some (.int 0) :: ρ)) := by
  intro b
  induction b using Nat.strongRecOn with
  | _ b ih =>
    intro a
    by_cases hb : b = 0
    · subst hb
      refine ⟨1, ?_⟩
      rw [whileD, hc]
      simp
    · obtain ⟨n, e⟩ := ih (a % b) (Nat.mod_lt _ (by omega)) b
      refine ⟨n + 1, ?_⟩
      rw [whileD, hc]
      have hm : modD (.int a) (.int b) = some (.int ((a % b : Nat) : Int)) := by rw [mod_ev (by omega), fmod_nn]
      simp only [obS, hb, decide_false, Bool.not_false, if_true]
      have e1 : sSeq (sPar [0, 1] (cCons (cV 1) (cCons (cB modD (cV 0) (cV 1)) (cNil)))) (sNil) F (some (.int a) :: some (.int b) :: ρ) = some (.nx (some (.int b) :: some (.int ((a % b : Nat) : Int)) :: ρ)) := by
        simp [hm]
      rw [e1]
      simp only [obS]
      rw [e, Nat.gcd_comm b, ← Nat.gcd_rec, Nat.gcd_comm]
theorem abs_nat (i : Int) : (if i < 0 then -i else i) = (i.natAbs : Int) := by omega
end RE
namespace L
theorem divisor_ev (n : Nat) (a b : Int) : lvl (DT rows) (n + 1) "divisor" [.int a, .int b] = some (.int (Int.gcd a b : Nat)) := by
  rw [v_divisor]
  obtain ⟨m, e⟩ := gcd_loop (lvl (DT rows) n) (cBT neD (cV 1) (cC (.int 0))) [] (fun a b => by simp) b.natAbs a.natAbs
  have e := sWhile_of e
  simp only [b_divisor, s_sSeq, s_sPar, s_cCons, s_cCall, s_cNil, s_cV0, s_cVs, obS, s_op1, s_abs, omS, s_setAll1, s_setAll0, List.set_cons_zero, List.set_cons_succ, abs_nat, e, s_sRet]
  simp [Int.gcd]
end L
namespace L
theorem by_ev (n : Nat) (a b : Int) : lvl (DT rows) (n + 1) "_law_by" [.int a, .int b] = some (.int (Int.gcd a b : Nat)) := by
  rw [v__law_by]
  obtain ⟨m, e⟩ := gcd_loop (lvl (DT rows) n) (cBT gtD (cV 1) (cC (.int 0))) [] (fun a b => by by_cases h : b = 0 <;> simp [h] <;> omega) b.natAbs a.natAbs
  have e := sWhile_of e
  simp only [b__law_by, s_sSeq, s_sPar, s_cCons, s_cCall, s_cNil, s_cV0, s_cVs, obS, s_op1, s_abs, omS, s_setAll1, s_setAll0, List.set_cons_zero, List.set_cons_succ, abs_nat, e, s_sRet]
  simp [Int.gcd]
end L
namespace RE
/-- a rational number as the text writes it -/
def rt (r : Rat) : D := .tup [.int r.num, .int r.den]
/-- its two numbers are below 2^k -/
def Sz (k : Nat) (r : Rat) : Prop := r.num.natAbs < 2 ^ k ∧ r.den < 2 ^ k
theorem log_lt {n k : Nat} (h : n < 2 ^ k) (hk : 0 < k) : n.log2 < k := by
  by_cases h0 : n = 0
  · subst h0; rw [Nat.log2_zero]; exact hk
  · exact (Nat.log2_lt h0).mpr h
theorem wid_of {i : Int} {k : Nat} (h : i.natAbs < 2 ^ k) (hk : k ≤ 8999) : wid i = true := by
  unfold wid
  have h2 : i.natAbs < 2 ^ (k + 1) := Nat.lt_of_lt_of_le h (Nat.pow_le_pow_right (by omega) (by omega))
  have := log_lt h2 (by omega)
  exact decide_eq_true (by omega)
theorem wim_of {i : Int} {k : Nat} (h : i.natAbs < 2 ^ k) (hk : k ≤ 20000) : wim i = true := by
  unfold wim
  have h2 : i.natAbs < 2 ^ (k + 1) := Nat.lt_of_lt_of_le h (Nat.pow_le_pow_right (by omega) (by omega))
  have := log_lt h2 (by omega)
  exact decide_eq_true (by omega)
theorem mul_sz {i j : Int} {k l : Nat} (h : i.natAbs < 2 ^ k) (g : j.natAbs < 2 ^ l) : (i * j).natAbs < 2 ^ (k + l) := by
  rw [Int.natAbs_mul, Nat.pow_add]
  exact Nat.mul_lt_mul'' h g
theorem add_sz {i j : Int} {k : Nat} (h : i.natAbs < 2 ^ k) (g : j.natAbs < 2 ^ k) : (i + j).natAbs < 2 ^ (k + 1) := by
  rw [Nat.pow_succ]; omega
theorem sub_sz {i j : Int} {k : Nat} (h : i.natAbs < 2 ^ k) (g : j.natAbs < 2 ^ k) : (i - j).natAbs < 2 ^ (k + 1) := by
  rw [Nat.pow_succ]; omega
theorem sz_le {k l : Nat} (h : k ≤ l) {n : Nat} (g : n < 2 ^ k) : n < 2 ^ l := Nat.lt_of_lt_of_le g (Nat.pow_le_pow_right (by omega) h)
theorem Sz.le {k l : Nat} (h : k ≤ l) {r : Rat} (g : Sz k r) : Sz l r := ⟨sz_le h g.1, sz_le h g.2⟩
/-- upper and lower by their signed greatest divisor -/
theorem divInt_parts {u l : Int} (hl : l ≠ 0) : u.fdiv ((Int.gcd u l : Int) * (if 0 < l then 1 else 0 - 1)) = (Rat.divInt u l).num ∧ l.fdiv ((Int.gcd u l : Int) * (if 0 < l then 1 else 0 - 1)) = ((Rat.divInt u l).den : Int) := by
  rw [Rat.num_divInt, Rat.den_divInt, if_neg hl, Int.gcd_comm l u]
  have hg : (0 : Int) < (Int.gcd u l : Int) := by
    have := Int.gcd_pos_iff.mpr (.inr hl : u ≠ 0 ∨ l ≠ 0)
    omega
  have d1 : (Int.gcd u l : Int) ∣ u := Int.gcd_dvd_left ..
  have d2 : (Int.gcd u l : Int) ∣ l := Int.gcd_dvd_right ..
  generalize (Int.gcd u l) = g at *
  obtain ⟨a, rfl⟩ := d1
  obtain ⟨b, rfl⟩ := d2
  have hg0 : (g : Int) ≠ 0 := by omega
  have hb0 : b ≠ 0 := fun z => hl (by rw [z]; simp)
  by_cases hb : 0 < (g : Int) * b
  · have hb1 : 0 < b := by
      rcases Int.lt_or_gt_of_ne hb0 with z | z
      · have := Int.mul_neg_of_pos_of_neg hg z; omega
      · exact z
    rw [if_pos hb, Int.mul_one, Int.sign_eq_one_of_pos hb, Int.one_mul, Int.mul_fdiv_cancel_left _ hg0, Int.mul_fdiv_cancel_left _ hg0, Int.mul_ediv_cancel_left _ hg0]
    refine ⟨rfl, ?_⟩
    rw [Int.natAbs_mul, Int.natAbs_natCast, Nat.mul_div_cancel_left _ (by omega)]
    omega
  · have hb1 : b < 0 := by
      rcases Int.lt_or_gt_of_ne hb0 with z | z
      · exact z
      · have := Int.mul_pos hg z; omega
    have hn : (g : Int) * b < 0 := Int.mul_neg_of_pos_of_neg hg hb1
    rw [if_neg hb, Int.sign_eq_neg_one_of_neg hn]
    have e : (g : Int) * (0 - 1) = -(g : Int) := by omega
    have n0 : -(g : Int) ≠ 0 := by omega
    have e1 : (g : Int) * a = -(g : Int) * (-a) := by rw [Int.neg_mul_neg]
    have e2 : (g : Int) * b = -(g : Int) * (-b) := by rw [Int.neg_mul_neg]
    rw [e]
    constructor
    · rw [e1, Int.mul_fdiv_cancel_left _ n0, Int.neg_mul_neg, Int.neg_one_mul, ← Int.mul_neg, Int.mul_ediv_cancel_left _ hg0]
    · rw [e2, Int.mul_fdiv_cancel_left _ n0, Int.neg_mul_neg, Int.natAbs_mul, Int.natAbs_natCast, Nat.mul_div_cancel_left _ (by omega)]
      omega
theorem divInt_sz {u l : Int} {k : Nat} (hl : l ≠ 0) (h : u.natAbs < 2 ^ k) (g : l.natAbs < 2 ^ k) : Sz k (Rat.divInt u l) := by
  unfold Sz
  rw [Rat.num_divInt, Rat.den_divInt, if_neg hl]
  constructor
  · refine Nat.lt_of_le_of_lt ?_ h
    refine Nat.le_trans (Int.natAbs_ediv_le_natAbs _ _) ?_
    rw [Int.natAbs_mul]
    have : l.sign.natAbs ≤ 1 := by
      rcases Int.lt_trichotomy l 0 with z | z | z
      · rw [Int.sign_eq_neg_one_of_neg z]; decide
      · exact absurd z hl
      · rw [Int.sign_eq_one_of_pos z]; decide
    exact Nat.le_trans (Nat.mul_le_mul_right _ this) (by omega)
  · exact Nat.lt_of_le_of_lt (Nat.div_le_self _ _) g
theorem gcd_le_r {u l : Int} (hl : l ≠ 0) : Int.gcd u l ≤ l.natAbs := by
  have := Int.natAbs_dvd_natAbs.mpr (Int.gcd_dvd_right u l)
  exact Nat.le_of_dvd (by omega) (by simpa using this)
/-- r - s, r + s, r * s, by their numbers -/
theorem sub_parts (r s : Rat) : Rat.divInt (r.num * s.den - s.num * r.den) (r.den * s.den) = r - s := by
  have h1 : (r.den : Int) ≠ 0 := by have := r.den_nz; omega
  have h2 : (s.den : Int) ≠ 0 := by have := s.den_nz; omega
  conv => rhs; rw [← Rat.num_divInt_den r, ← Rat.num_divInt_den s]
  exact (Rat.divInt_sub_divInt _ _ h1 h2).symm
theorem add_parts (r s : Rat) : Rat.divInt (r.num * s.den + s.num * r.den) (r.den * s.den) = r + s := by
  have h1 : (r.den : Int) ≠ 0 := by have := r.den_nz; omega
  have h2 : (s.den : Int) ≠ 0 := by have := s.den_nz; omega
  conv => rhs; rw [← Rat.num_divInt_den r, ← Rat.num_divInt_den s]
  exact (Rat.divInt_add_divInt _ _ h1 h2).symm
theorem mul_parts (r s : Rat) : Rat.divInt (r.num * s.num) (r.den * s.den) = r * s := by
  conv => rhs; rw [← Rat.num_divInt_den r, ← Rat.num_divInt_den s]
  exact (Rat.divInt_mul_divInt _ _).symm
theorem dens_ne (r s : Rat) : (r.den : Int) * s.den ≠ 0 := by
  have h1 : (r.den : Int) ≠ 0 := by have := r.den_nz; omega
  have h2 : (s.den : Int) ≠ 0 := by have := s.den_nz; omega
  exact Int.mul_ne_zero h1 h2
theorem sub_Sz {r s : Rat} {k : Nat} (h : Sz k r) (g : Sz k s) : Sz (2 * k + 1) (r - s) := by
  rw [← sub_parts]
  refine divInt_sz (dens_ne r s) (sub_sz (k := 2 * k) ?_ ?_) (sz_le (k := 2 * k) (by omega) ?_)
  · have := mul_sz h.1 (j := s.den) (l := k) (by simpa using g.2); rwa [show 2 * k = k + k by omega]
  · have := mul_sz g.1 (j := r.den) (l := k) (by simpa using h.2); rwa [show 2 * k = k + k by omega]
  · have := mul_sz (i := r.den) (k := k) (by simpa using h.2) (j := s.den) (l := k) (by simpa using g.2); rwa [show 2 * k = k + k by omega]
theorem add_Sz {r s : Rat} {k : Nat} (h : Sz k r) (g : Sz k s) : Sz (2 * k + 1) (r + s) := by
  rw [← add_parts]
  refine divInt_sz (dens_ne r s) (add_sz (k := 2 * k) ?_ ?_) (sz_le (k := 2 * k) (by omega) ?_)
  · have := mul_sz h.1 (j := s.den) (l := k) (by simpa using g.2); rwa [show 2 * k = k + k by omega]
  · have := mul_sz g.1 (j := r.den) (l := k) (by simpa using h.2); rwa [show 2 * k = k + k by omega]
  · have := mul_sz (i := r.den) (k := k) (by simpa using h.2) (j := s.den) (l := k) (by simpa using g.2); rwa [show 2 * k = k + k by omega]
theorem mul_Sz {r s : Rat} {k l : Nat} (h : Sz k r) (g : Sz l s) : Sz (k + l) (r * s) := by
  rw [← mul_parts]
  exact divInt_sz (dens_ne r s) (mul_sz h.1 g.1) (mul_sz (i := r.den) (k := k) (by simpa using h.2) (j := s.den) (l := l) (by simpa using g.2))
end RE
namespace RE
@[simp] theorem idx_r0 (r : Rat) : idxD (rt r) (.int 0) = some (.int r.num) := idx_t0 _ _
@[simp] theorem idx_r1 (r : Rat) : idxD (rt r) (.int 1) = some (.int r.den) := idx_t1 _ _ _
/-- an integer as a rational -/
theorem rt_int (i : Int) : D.tup [.int i, .int 1] = rt (i : Rat) := by simp [rt]
theorem int_Sz {i : Int} {k : Nat} (h : i.natAbs < 2 ^ k) (hk : 0 < k) : Sz k (i : Rat) := by
  refine ⟨by simpa using h, ?_⟩
  have : (2 : Nat) ^ 1 ≤ 2 ^ k := Nat.pow_le_pow_right (by omega) hk
  simp
  omega
theorem den_na (r : Rat) : ((r.den : Int)).natAbs = r.den := Int.natAbs_natCast _
theorem wim_num {r : Rat} {k : Nat} (h : Sz k r) (hk : k ≤ 20000) : wim r.num = true := wim_of h.1 hk
theorem wim_den {r : Rat} {k : Nat} (h : Sz k r) (hk : k ≤ 20000) : wim (r.den : Int) = true := wim_of (by rw [den_na]; exact h.2) hk
end RE
namespace L
theorem frac_ev (n : Nat) (u l : Int) (hl : l ≠ 0) {k : Nat} (hk : k ≤ 8999) (h : l.natAbs < 2 ^ k) : lvl (DT rows) (n + 2) "frac" [.int u, .int l] = some (rt (Rat.divInt u l)) := by
  rw [v_frac]
  have hg : Int.gcd u l ≠ 0 := fun z => hl (Int.gcd_eq_zero_iff.mp z).2
  have hw : wid (Int.gcd u l : Int) = true := wid_of (k := k) (by have := gcd_le_r (u := u) hl; omega) hk
  have hw2 : wid (-(Int.gcd u l : Int)) = true := wid_of (k := k) (by have := gcd_le_r (u := u) hl; omega) hk
  obtain ⟨e1, e2⟩ := divInt_parts (u := u) hl
  by_cases hn : l < 0
  · have hp : ¬ 0 < l := by omega
    rw [if_neg hp] at e1 e2
    have e3 : (Int.gcd u l : Int) * (0 - 1) = -(Int.gcd u l : Int) := by omega
    rw [e3] at e1 e2
    have f1 := fdiv_ev (i := u) (j := -(Int.gcd u l : Int)) (by omega) hw2
    have f2 := fdiv_ev (i := l) (j := -(Int.gcd u l : Int)) (by omega) hw2
    simp [b_frac, divisor_ev, hn, f1, f2, e1, e2, rt]
  · have hp : 0 < l := by omega
    rw [if_pos hp, Int.mul_one] at e1 e2
    have f1 := fdiv_ev (i := u) (j := (Int.gcd u l : Int)) (by omega) hw
    have f2 := fdiv_ev (i := l) (j := (Int.gcd u l : Int)) (by omega) hw
    simp [b_frac, divisor_ev, hn, f1, f2, e1, e2, rt]
end L
namespace L
theorem minus_ev (n : Nat) {r s : Rat} {k : Nat} (hr : Sz k r) (hs : Sz k s) (hk : 2 * k ≤ 8999) : lvl (DT rows) (n + 3) "minus" [rt r, rt s] = some (rt (r - s)) := by
  rw [v_minus]
  have hd : ((r.den : Int) * s.den).natAbs < 2 ^ (2 * k) := by
    have := mul_sz (i := r.den) (k := k) (by rw [den_na]; exact hr.2) (j := s.den) (l := k) (by rw [den_na]; exact hs.2)
    rwa [show 2 * k = k + k by omega]
  have f := frac_ev n (r.num * s.den - s.num * r.den) ((r.den : Int) * s.den) (dens_ne r s) hk hd
  rw [sub_parts] at f
  simp [b_minus, mul_ev (wim_num hr (by omega)) (wim_den hs (by omega)), mul_ev (wim_num hs (by omega)) (wim_den hr (by omega)), mul_ev (wim_den hr (by omega)) (wim_den hs (by omega)), f]
end L
namespace L
theorem ratio_ev (n : Nat) (u l : Int) (hl : l ≠ 0) {k : Nat} (hk : k ≤ 8999) (h : l.natAbs < 2 ^ k) : lvl (DT rows) (n + 2) "_law_ratio" [.int u, .int l] = some (rt (Rat.divInt u l)) := by
  rw [v__law_ratio]
  have hg : Int.gcd u l ≠ 0 := fun z => hl (Int.gcd_eq_zero_iff.mp z).2
  have hb : ((Int.gcd u l : Int)).natAbs < 2 ^ k := by have := gcd_le_r (u := u) hl; omega
  have hw : wid (Int.gcd u l : Int) = true := wid_of (k := k) hb hk
  have hw2 : wid (-(Int.gcd u l : Int)) = true := wid_of (k := k) (by omega) hk
  have hm : wim (Int.gcd u l : Int) = true := wim_of (k := k) hb (by omega)
  obtain ⟨e1, e2⟩ := divInt_parts (u := u) hl
  by_cases hn : 0 < l
  · rw [if_pos hn, Int.mul_one] at e1 e2
    have m1 := mul_ev (i := (Int.gcd u l : Int)) (j := 1) hm (by decide)
    have f1 := fdiv_ev (i := u) (j := (Int.gcd u l : Int)) (by omega) hw
    have f2 := fdiv_ev (i := l) (j := (Int.gcd u l : Int)) (by omega) hw
    simp [b__law_ratio, by_ev, hn, m1, f1, f2, e1, e2, rt]
  · rw [if_neg hn] at e1 e2
    have e3 : (Int.gcd u l : Int) * (0 - 1) = -(Int.gcd u l : Int) := by omega
    rw [e3] at e1 e2
    have m1 := mul_ev (i := (Int.gcd u l : Int)) (j := -1) hm (by decide)
    have f1 := fdiv_ev (i := u) (j := -(Int.gcd u l : Int)) (by omega) hw2
    have f2 := fdiv_ev (i := l) (j := -(Int.gcd u l : Int)) (by omega) hw2
    simp [b__law_ratio, by_ev, hn, m1, f1, f2, e1, e2, rt]
end L
namespace L
theorem less_ev (n : Nat) {r s : Rat} {k : Nat} (hr : Sz k r) (hs : Sz k s) (hk : 2 * k ≤ 8999) : lvl (DT rows) (n + 3) "_law_less" [rt r, rt s] = some (rt (r - s)) := by
  rw [v__law_less]
  have hd : ((r.den : Int) * s.den).natAbs < 2 ^ (2 * k) := by
    have := mul_sz (i := r.den) (k := k) (by rw [den_na]; exact hr.2) (j := s.den) (l := k) (by rw [den_na]; exact hs.2)
    rwa [show 2 * k = k + k by omega]
  have f := ratio_ev n (r.num * s.den - s.num * r.den) ((r.den : Int) * s.den) (dens_ne r s) hk hd
  rw [sub_parts] at f
  simp [b__law_less, mul_ev (wim_num hr (by omega)) (wim_den hs (by omega)), mul_ev (wim_num hs (by omega)) (wim_den hr (by omega)), mul_ev (wim_den hr (by omega)) (wim_den hs (by omega)), f]
end L
namespace L
theorem sum_ev (n : Nat) {r s : Rat} {k : Nat} (hr : Sz k r) (hs : Sz k s) (hk : 2 * k ≤ 8999) : lvl (DT rows) (n + 3) "_law_sum" [rt r, rt s] = some (rt (r + s)) := by
  rw [v__law_sum]
  have hd : ((r.den : Int) * s.den).natAbs < 2 ^ (2 * k) := by
    have := mul_sz (i := r.den) (k := k) (by rw [den_na]; exact hr.2) (j := s.den) (l := k) (by rw [den_na]; exact hs.2)
    rwa [show 2 * k = k + k by omega]
  have f := ratio_ev n (r.num * s.den + s.num * r.den) ((r.den : Int) * s.den) (dens_ne r s) hk hd
  rw [add_parts] at f
  simp [b__law_sum, mul_ev (wim_num hr (by omega)) (wim_den hs (by omega)), mul_ev (wim_num hs (by omega)) (wim_den hr (by omega)), mul_ev (wim_den hr (by omega)) (wim_den hs (by omega)), f]
end L
namespace L
theorem prod_ev (n : Nat) {r s : Rat} {k l : Nat} (hr : Sz k r) (hs : Sz l s) (hk : k + l ≤ 8999) : lvl (DT rows) (n + 3) "_law_prod" [rt r, rt s] = some (rt (r * s)) := by
  rw [v__law_prod]
  have hd : ((r.den : Int) * s.den).natAbs < 2 ^ (k + l) :=
    mul_sz (i := r.den) (k := k) (by rw [den_na]; exact hr.2) (j := s.den) (l := l) (by rw [den_na]; exact hs.2)
  have f := ratio_ev n (r.num * s.num) ((r.den : Int) * s.den) (dens_ne r s) hk hd
  rw [mul_parts] at f
  simp [b__law_prod, mul_ev (wim_num hr (by omega)) (wim_num hs (by omega)), mul_ev (wim_den hr (by omega)) (wim_den hs (by omega)), f]
end L
namespace RE
/-- a point, a way -/
def pt (x y : Rat) : D := .tup [rt x, rt y]
def wy (w : Int × Int) : D := .tup [.int w.1, .int w.2]
/-- the least whole numbers of a direction -/
def dirI (x y : Rat) : Int × Int := ((x.num * y.den).fdiv (Int.gcd (x.num * y.den) (y.num * x.den)), (y.num * x.den).fdiv (Int.gcd (x.num * y.den) (y.num * x.den)))
@[simp] theorem idx_p0 (x y : Rat) : idxD (pt x y) (.int 0) = some (rt x) := idx_t0 _ _
@[simp] theorem idx_p1 (x y : Rat) : idxD (pt x y) (.int 1) = some (rt y) := idx_t1 _ _ _
@[simp] theorem idx_w0 (w : Int × Int) : idxD (wy w) (.int 0) = some (.int w.1) := idx_t0 _ _
@[simp] theorem idx_w1 (w : Int × Int) : idxD (wy w) (.int 1) = some (.int w.2) := idx_t1 _ _ _
theorem num_pos' (r : Rat) : (0 < r.num) ↔ 0 < r := by
  have h1 := @Rat.num_nonneg r
  have h2 := @Rat.num_eq_zero r
  constructor
  · intro h
    have h3 : 0 ≤ r := h1.mp (by omega)
    have h4 : r ≠ 0 := fun z => by have := h2.mpr z; omega
    grind
  · intro h
    have h3 : 0 ≤ r := by grind
    have h4 : r ≠ 0 := by grind
    have h5 := h1.mpr h3
    have h6 : r.num ≠ 0 := fun z => h4 (h2.mp z)
    omega
theorem pt_eq (x y : Rat) : D.tup [rt x, rt y] = pt x y := rfl
theorem wy_eq (a b : Int) : D.tup [.int a, .int b] = wy (a, b) := rfl
end RE
namespace L
theorem cross_ev (n : Nat) {x y : Rat} {w : Int × Int} {k l : Nat} (hx : Sz k x) (hy : Sz k y) (h1 : w.1.natAbs < 2 ^ l) (h2 : w.2.natAbs < 2 ^ l) (hl : 0 < l) (hk : 2 * (k + l) ≤ 8999) : lvl (DT rows) (n + 4) "_law_cross" [pt x y, wy w] = some (rt (x * w.2 - y * w.1)) := by
  rw [v__law_cross]
  have f1 := prod_ev n hx (int_Sz h2 hl) (by omega)
  have f2 := prod_ev n hy (int_Sz h1 hl) (by omega)
  have f3 := less_ev n (mul_Sz hx (int_Sz h2 hl)) (mul_Sz hy (int_Sz h1 hl)) (by omega)
  simp [b__law_cross, rt_int, f1, f2, f3]
end L
namespace RE
def Prim (w : Int × Int) : Prop := Int.gcd w.1 w.2 = 1
theorem rat_nd (t : Rat) : t * ((t.den : Int) : Rat) = (t.num : Rat) := by
  have h := Rat.num_divInt_den t
  rw [Rat.divInt_eq_div] at h
  have hd : ((t.den : Int) : Rat) ≠ 0 := fun z => by
    have := Rat.intCast_eq_zero_iff.mp z
    have := t.den_nz
    omega
  generalize ((t.den : Int) : Rat) = d at *
  generalize (t.num : Rat) = m at *
  grind
theorem den_pos' (t : Rat) : (0 : Rat) < ((t.den : Int) : Rat) := by
  have := t.den_nz
  exact Rat.intCast_pos.mpr (by omega)
/-- two least ways of one direction are one -/
theorem prim_uniq {w v : Int × Int} (hw : Prim w) (hv : Prim v) {t : Rat} (ht : 0 < t) (h1 : (w.1 : Rat) = t * v.1) (h2 : (w.2 : Rat) = t * v.2) : w = v := by
  have hn := rat_nd t
  have e1 : (t.den : Int) * w.1 = t.num * v.1 := by
    have : ((t.den : Int) : Rat) * (w.1 : Rat) = (t.num : Rat) * (v.1 : Rat) := by
      rw [h1, ← hn]
      generalize ((t.den : Int) : Rat) = d
      grind
    exact_mod_cast this
  have e2 : (t.den : Int) * w.2 = t.num * v.2 := by
    have : ((t.den : Int) : Rat) * (w.2 : Rat) = (t.num : Rat) * (v.2 : Rat) := by
      rw [h2, ← hn]
      generalize ((t.den : Int) : Rat) = d
      grind
    exact_mod_cast this
  have g1 := Int.gcd_mul_left (t.den : Int) w.1 w.2
  have g2 := Int.gcd_mul_left t.num v.1 v.2
  rw [e1, e2] at g1
  rw [g1] at g2
  unfold Prim at hw hv
  rw [hw, hv] at g2
  have tp : 0 < t.num := (num_pos' t).mpr ht
  have tn : t.num = (t.den : Int) := by simp at g2; omega
  have dn : (t.den : Int) ≠ 0 := by have := t.den_nz; omega
  rw [tn] at e1 e2
  exact Prod.ext (Int.eq_of_mul_eq_mul_left dn e1) (Int.eq_of_mul_eq_mul_left dn e2)
theorem aux1 {d d' x g p : Rat} (hd : 0 < d) (hd' : 0 < d') (h : g * p = x * d * d') : x = g * (d * d')⁻¹ * p := by
  have h1 : d ≠ 0 := by grind
  have h2 : d' ≠ 0 := by grind
  clear hd hd'
  grind
theorem dirI_spec {x y : Rat} (h : ¬ (x = 0 ∧ y = 0)) : Prim (dirI x y) ∧ ∃ t : Rat, 0 < t ∧ x = t * ((dirI x y).1 : Rat) ∧ y = t * ((dirI x y).2 : Rat) := by
  have hx := rat_nd x
  have hy := rat_nd y
  have px := den_pos' x
  have py := den_pos' y
  have hab : x.num * (y.den : Int) ≠ 0 ∨ y.num * (x.den : Int) ≠ 0 := by
    by_cases hx0 : x = 0
    · right
      intro z
      rcases Int.mul_eq_zero.mp z with q | q
      · exact h ⟨hx0, Rat.num_eq_zero.mp q⟩
      · have := x.den_nz; omega
    · left
      intro z
      rcases Int.mul_eq_zero.mp z with q | q
      · exact hx0 (Rat.num_eq_zero.mp q)
      · have := y.den_nz; omega
  unfold dirI
  have ea : ((x.num * (y.den : Int) : Int) : Rat) = x * ((x.den : Int) : Rat) * ((y.den : Int) : Rat) := by rw [Rat.intCast_mul, ← hx]
  have eb : ((y.num * (x.den : Int) : Int) : Rat) = y * ((x.den : Int) : Rat) * ((y.den : Int) : Rat) := by
    rw [Rat.intCast_mul, ← hy]
    generalize ((x.den : Int) : Rat) = d
    grind
  generalize x.num * (y.den : Int) = a at *
  generalize y.num * (x.den : Int) = b at *
  have hg : 0 < Int.gcd a b := Int.gcd_pos_iff.mpr hab
  have d1 : (Int.gcd a b : Int) ∣ a := Int.gcd_dvd_left ..
  have d2 : (Int.gcd a b : Int) ∣ b := Int.gcd_dvd_right ..
  obtain ⟨p, hp⟩ := d1
  obtain ⟨q, hq⟩ := d2
  have hg0 : (Int.gcd a b : Int) ≠ 0 := by omega
  have cut : ∀ (a p g : Int), g ≠ 0 → a = g * p → a.fdiv g = p := fun a p g hg e => by rw [e]; exact Int.mul_fdiv_cancel_left _ hg
  have f1 := cut _ _ _ hg0 hp
  have f2 := cut _ _ _ hg0 hq
  rw [f1, f2]
  have hgg : Int.gcd a b = Int.gcd a b * Int.gcd p q := by
    have := Int.gcd_mul_left (Int.gcd a b : Int) p q
    rw [← hp, ← hq] at this
    simpa using this
  have hpq : Int.gcd p q = 1 := by
    have : Int.gcd a b * 1 = Int.gcd a b * Int.gcd p q := by rw [Nat.mul_one]; exact hgg
    exact (Nat.eq_of_mul_eq_mul_left hg this).symm
  refine ⟨hpq, (Int.gcd a b : Int) * (((x.den : Int) : Rat) * ((y.den : Int) : Rat))⁻¹, ?_, ?_, ?_⟩
  · exact Rat.mul_pos (Rat.intCast_pos.mpr (by omega)) (Rat.inv_pos.mpr (Rat.mul_pos px py))
  · have : (a : Rat) = ((Int.gcd a b : Int) : Rat) * (p : Rat) := by rw [← Rat.intCast_mul, ← hp]
    rw [this] at ea
    exact aux1 px py ea
  · have : (b : Rat) = ((Int.gcd a b : Int) : Rat) * (q : Rat) := by rw [← Rat.intCast_mul, ← hq]
    rw [this] at eb
    exact aux1 px py eb
theorem sq_pos {w : Int × Int} (hw : Prim w) : (0 : Rat) < (w.1 : Rat) * w.1 + (w.2 : Rat) * w.2 := by
  have h : 0 < w.1 * w.1 + w.2 * w.2 := by
    by_cases h1 : w.1 = 0
    · have h2 : w.2 ≠ 0 := fun z => by unfold Prim at hw; rw [h1, z] at hw; simp at hw
      have a : w.1 * w.1 = 0 := by rw [h1]; rfl
      have b : 0 < w.2 * w.2 := by
        rcases Int.lt_or_gt_of_ne h2 with z | z
        · exact Int.mul_pos_of_neg_of_neg z z
        · exact Int.mul_pos z z
      omega
    · have a : 0 ≤ w.2 * w.2 := by
        rcases Int.le_total 0 w.2 with z | z
        · exact Int.mul_nonneg z z
        · exact Int.mul_nonneg_of_nonpos_of_nonpos z z
      have b : 0 < w.1 * w.1 := by
        rcases Int.lt_or_gt_of_ne h1 with z | z
        · exact Int.mul_pos_of_neg_of_neg z z
        · exact Int.mul_pos z z
      omega
  exact_mod_cast h
/-- on the ray: the direction is that way -/
theorem lies_iff {w : Int × Int} (hw : Prim w) {x y : Rat} : (x * w.2 - y * w.1 = 0 ∧ 0 < x * w.1 + y * w.2) ↔ (¬ (x = 0 ∧ y = 0) ∧ dirI x y = w) := by
  constructor
  · rintro ⟨h1, h2⟩
    have h0 : ¬ (x = 0 ∧ y = 0) := fun z => by rw [z.1, z.2] at h2; grind
    refine ⟨h0, ?_⟩
    obtain ⟨hp, t, ht, hx, hy⟩ := dirI_spec h0
    have sq := sq_pos hw
    have tne : t ≠ 0 := by grind
    have tinv : 0 < t⁻¹ := Rat.inv_pos.mpr ht
    have c : (0 : Rat) < ((w.1 : Rat) * w.1 + (w.2 : Rat) * w.2)⁻¹ := Rat.inv_pos.mpr sq
    refine prim_uniq hp hw (t := (x * w.1 + y * w.2) * t⁻¹ * ((w.1 : Rat) * w.1 + (w.2 : Rat) * w.2)⁻¹) (Rat.mul_pos (Rat.mul_pos h2 tinv) c) ?_ ?_
    · generalize ((dirI x y).1 : Rat) = a at *
      generalize ((dirI x y).2 : Rat) = b at *
      generalize (w.1 : Rat) = u at *
      generalize (w.2 : Rat) = v at *
      have sne : u * u + v * v ≠ 0 := by grind
      grind
    · generalize ((dirI x y).1 : Rat) = a at *
      generalize ((dirI x y).2 : Rat) = b at *
      generalize (w.1 : Rat) = u at *
      generalize (w.2 : Rat) = v at *
      have sne : u * u + v * v ≠ 0 := by grind
      grind
  · rintro ⟨h0, rfl⟩
    obtain ⟨hp, t, ht, hx, hy⟩ := dirI_spec h0
    have sq := sq_pos hp
    generalize ((dirI x y).1 : Rat) = a at *
    generalize ((dirI x y).2 : Rat) = b at *
    constructor
    · grind
    · have e : x * a + y * b = t * (a * a + b * b) := by grind
      rw [e]
      exact Rat.mul_pos ht sq
end RE
end
section
open PySem PySem.Spec PyProof.Rows L2 RE
namespace RE
theorem eqv_tupC (a b : D) (l m : List D) : eqv (.tup (a :: l)) (.tup (b :: m)) = (eqv a b && eqvL l m) := by simp [eqv, eqvL, toP, toPs, PyData.eqv, PyData.eqvAll]
theorem eqvL_cons (a b : D) (l m : List D) : eqvL (a :: l) (b :: m) = (eqv a b && eqvL l m) := by simp [eqv, eqvL, toPs, PyData.eqvAll]
theorem eqvL_nil : eqvL [] [] = true := by simp [eqvL, toPs, PyData.eqvAll]
theorem eqv_int (i j : Int) : eqv (.int i) (.int j) = decide (i = j) := by
  simp [eqv, toP, PyData.eqv]
  first | done | (by_cases h : i = j <;> simp [h])
theorem pd_tup (n : Nat) (l : List D) : pd (n + 1) (.tup l) = l.all (pd n) := by simp [pd]
theorem pd_int (n : Nat) (i : Int) : pd n (.int i) = true := by cases n <;> simp [pd]
end RE
namespace RE
theorem eqv_rt (r s : Rat) : eqv (rt r) (rt s) = decide (r = s) := by
  simp only [rt, eqv_tupC, eqvL_cons, eqvL_nil, eqv_int, Bool.and_true]
  by_cases h : r = s
  · subst h; simp
  · have : ¬ (r.num = s.num ∧ (r.den : Int) = s.den) := fun z => h (Rat.ext z.1 (by omega))
    rw [decide_eq_false h]
    simp only [Bool.and_eq_false_iff, decide_eq_false_iff_not]
    by_cases h1 : r.num = s.num
    · right; exact fun z => this ⟨h1, z⟩
    · left; exact h1
theorem eqv_pt (a b c d : Rat) : eqv (pt a b) (pt c d) = (decide (a = c) && decide (b = d)) := by
  simp only [pt, eqv_tupC, eqvL_cons, eqvL_nil, eqv_rt, Bool.and_true]
theorem eqv_wy (v w : Int × Int) : eqv (wy v) (wy w) = decide (v = w) := by
  simp only [wy, eqv_tupC, eqvL_cons, eqvL_nil, eqv_int, Bool.and_true]
  by_cases h : v = w
  · subst h; simp
  · have : ¬ (v.1 = w.1 ∧ v.2 = w.2) := fun z => h (Prod.ext z.1 z.2)
    rw [decide_eq_false h]
    simp only [Bool.and_eq_false_iff, decide_eq_false_iff_not]
    by_cases h1 : v.1 = w.1
    · right; exact fun z => this ⟨h1, z⟩
    · left; exact h1
theorem pd_rt (n : Nat) (r : Rat) : pd (n + 1) (rt r) = true := by simp [rt, pd_tup, pd_int]
theorem pd_pt (n : Nat) (a b : Rat) : pd (n + 2) (pt a b) = true := by simp [pt, pd_tup, pd_rt]
theorem pd_wy (n : Nat) (w : Int × Int) : pd (n + 1) (wy w) = true := by simp [wy, pd_tup, pd_int]
theorem eqD_pt (a b c d : Rat) : eqD (pt a b) (pt c d) = some (.bl (decide (a = c) && decide (b = d))) := by
  unfold eqD pd2; rw [pd_pt 62, pd_pt 62, eqv_pt]; rfl
theorem neD_pt (a b c d : Rat) : neD (pt a b) (pt c d) = some (.bl !(decide (a = c) && decide (b = d))) := by
  unfold neD pd2; rw [pd_pt 62, pd_pt 62, eqv_pt]; rfl
theorem eqD_wy (v w : Int × Int) : eqD (wy v) (wy w) = some (.bl (decide (v = w))) := by
  unfold eqD pd2; rw [pd_wy 63, pd_wy 63, eqv_wy]; rfl
theorem neD_wy (v w : Int × Int) : neD (wy v) (wy w) = some (.bl !decide (v = w)) := by
  unfold neD pd2; rw [pd_wy 63, pd_wy 63, eqv_wy]; rfl
theorem gcd_sz {a b : Int} {k : Nat} (ha : a.natAbs < 2 ^ k) (hb : b.natAbs < 2 ^ k) : ((Int.gcd a b : Nat) : Int).natAbs < 2 ^ k := by
  by_cases h : b = 0
  · subst h; simpa using ha
  · have := gcd_le_r (u := a) h
    omega
theorem sub_zero_iff (a b : Rat) : a - b = 0 ↔ b = a := by grind
end RE
namespace L
theorem direction_ev (n : Nat) {a b c d : Rat} {k : Nat} (ha : Sz k a) (hb : Sz k b) (hc : Sz k c) (hd : Sz k d) (h0 : ¬ (c - a = 0 ∧ d - b = 0)) (hk : 2 * (2 * k + 1) ≤ 8999) :
    lvl (DT rows) (n + 4) "direction" [pt a b, pt c d] = some (wy (dirI (c - a) (d - b))) := by
  rw [v_direction]
  have s1 := sub_Sz hc ha
  have s2 := sub_Sz hd hb
  have f1 := minus_ev n hc ha (by omega)
  have f2 := minus_ev n hd hb (by omega)
  have hp := dirI_spec h0
  unfold dirI
  generalize c - a = x at *
  generalize d - b = y at *
  have m1 := mul_sz s1.1 (j := y.den) (l := 2 * k + 1) (by rw [den_na]; exact s2.2)
  have m2 := mul_sz s2.1 (j := x.den) (l := 2 * k + 1) (by rw [den_na]; exact s1.2)
  have e1 := mul_ev (wim_num s1 (by omega)) (wim_den s2 (by omega))
  have e2 := mul_ev (wim_num s2 (by omega)) (wim_den s1 (by omega))
  have hg : (Int.gcd (x.num * y.den) (y.num * x.den) : Int) ≠ 0 := by
    intro z
    have z := Int.gcd_eq_zero_iff.mp (show Int.gcd (x.num * y.den) (y.num * x.den) = 0 by omega)
    have q1 : x.num = 0 := (Int.mul_eq_zero.mp z.1).resolve_right (by have := y.den_nz; omega)
    have q2 : y.num = 0 := (Int.mul_eq_zero.mp z.2).resolve_right (by have := x.den_nz; omega)
    exact h0 ⟨Rat.num_eq_zero.mp q1, Rat.num_eq_zero.mp q2⟩
  have hw := wid_of (gcd_sz m1 m2) (by omega)
  have g1 := fdiv_ev (i := x.num * y.den) hg hw
  have g2 := fdiv_ev (i := y.num * x.den) hg hw
  simp [b_direction, f1, f2, e1, e2, divisor_ev, g1, g2, wy_eq]
end L
namespace L
theorem is_on_ev (n : Nat) {a b c d : Rat} {w : Int × Int} {k : Nat} (hw : Prim w) (ha : Sz k a) (hb : Sz k b) (hc : Sz k c) (hd : Sz k d) (hk : 2 * (2 * k + 1) ≤ 8999) :
    lvl (DT rows) (n + 5) "is_on" [pt a b, wy w, pt c d] = some (.bl (decide ((c - a) * w.2 - (d - b) * w.1 = 0 ∧ 0 < (c - a) * w.1 + (d - b) * w.2))) := by
  rw [v_is_on]
  by_cases h0 : c - a = 0 ∧ d - b = 0
  · have e1 := (sub_zero_iff _ _).mp h0.1
    have e2 := (sub_zero_iff _ _).mp h0.2
    have : ¬ ((c - a) * w.2 - (d - b) * w.1 = 0 ∧ 0 < (c - a) * w.1 + (d - b) * w.2) := fun z => ((lies_iff hw).mp z).1 h0
    simp only [b_is_on, s_sSeq, s_sIf, s_cBT, s_cV0, s_cVs, obS, eqD_pt, e1, e2, decide_true, Bool.and_self, s_boolD, if_true, s_sRet, s_cC, omS, s_finR]
    rw [decide_eq_false (by rwa [e1, e2] at this)]
    rfl
  · have f := direction_ev n ha hb hc hd h0 hk
    have e : (decide (a = c) && decide (b = d)) = false := by
      rw [Bool.and_eq_false_iff]
      by_cases h1 : a = c
      · right; exact decide_eq_false fun z => h0 ⟨(sub_zero_iff _ _).mpr h1, (sub_zero_iff _ _).mpr z⟩
      · left; exact decide_eq_false h1
    have iff : (dirI (c - a) (d - b) = w) ↔ ((c - a) * w.2 - (d - b) * w.1 = 0 ∧ 0 < (c - a) * w.1 + (d - b) * w.2) := ⟨fun z => (lies_iff hw).mpr ⟨h0, z⟩, fun z => ((lies_iff hw).mp z).2⟩
    simp only [b_is_on, s_sSeq, s_sIf, s_cBT, s_cB, s_cFn, s_cCons, s_cNil, s_cV0, s_cVs, obS, eqD_pt, e, s_boolD, Bool.false_eq_true, if_false, s_sNil, f, eqD_wy, s_sRet, omS, s_finR, iff]
    rfl
end L
namespace RE
def crs (w v : Int × Int) : Int := w.1 * v.2 - w.2 * v.1
/-- where two rays meet, with the parts of the way -/
def jF (a b c d : Rat) (v : Int × Int) : Rat := (c - a) * v.2 - (d - b) * v.1
def jointR (a b : Rat) (w : Int × Int) (c d : Rat) (v : Int × Int) : Option (Rat × Rat) :=
  if crs w v = 0 then none
  else if 0 < jF a b c d v * (crs w v : Rat) ∧ 0 < jF a b c d w * (crs w v : Rat) then some (a + jF a b c d v / (crs w v : Rat) * w.1, b + jF a b c d v / (crs w v : Rat) * w.2) else none
def optD : Option (Rat × Rat) → D
  | none => .non
  | some p => pt p.1 p.2
theorem num_mul_pos (r : Rat) (m : Int) : (r.num * m ≤ 0) ↔ ¬ 0 < r * (m : Rat) := by
  have h := rat_nd r
  have hd := den_pos' r
  have e : ((r.num * m : Int) : Rat) = r * (m : Rat) * ((r.den : Int) : Rat) := by
    rw [Rat.intCast_mul, ← h]
    generalize ((r.den : Int) : Rat) = d
    grind
  rw [← Int.not_lt]
  refine not_congr ?_
  rw [← Rat.intCast_pos, e]
  constructor
  · intro z
    by_cases c : 0 < r * (m : Rat)
    · exact c
    · have c2 : 0 ≤ -(r * (m : Rat)) := by grind
      have := Rat.mul_nonneg c2 (show (0 : Rat) ≤ ((r.den : Int) : Rat) by grind)
      grind
  · intro z
    exact Rat.mul_pos z hd
theorem frac_div (r : Rat) {m : Int} (hm : m ≠ 0) : Rat.divInt r.num (r.den * m) = r / (m : Rat) := by
  rw [Rat.divInt_eq_div, Rat.intCast_mul, ← rat_nd r]
  have h1 : ((r.den : Int) : Rat) ≠ 0 := by have := den_pos' r; grind
  have h2 : (m : Rat) ≠ 0 := fun z => hm (Rat.intCast_eq_zero_iff.mp z)
  generalize ((r.den : Int) : Rat) = d at *
  generalize (m : Rat) = m at *
  clear hm
  grind
theorem crs_sz {w v : Int × Int} {l : Nat} (h1 : w.1.natAbs < 2 ^ l) (h2 : w.2.natAbs < 2 ^ l) (h3 : v.1.natAbs < 2 ^ l) (h4 : v.2.natAbs < 2 ^ l) : (crs w v).natAbs < 2 ^ (2 * l + 1) := by
  rw [show 2 * l = l + l by omega]
  exact sub_sz (mul_sz h1 h4) (mul_sz h2 h3)
theorem den_mul_ne (r : Rat) {m : Int} (hm : m ≠ 0) : (r.den : Int) * m ≠ 0 := Int.mul_ne_zero (by have := r.den_nz; omega) hm
theorem sgn1 {f c u s : Rat} (hc : c ≠ 0) (hs : 0 < s) : (0 < f / c * s) ↔ 0 < f * c := by
  have c2 : 0 < c * c := by
    rcases Rat.le_total (a := 0) (b := c) with z | z
    · exact Rat.mul_pos (by grind) (by grind)
    · have := Rat.mul_pos (show 0 < -c by grind) (show 0 < -c by grind)
      grind
  have i2 : 0 < (c * c)⁻¹ := Rat.inv_pos.mpr c2
  constructor
  · intro h
    have h3 := Rat.mul_pos h (Rat.mul_pos c2 (Rat.inv_pos.mpr hs))
    have e : f / c * s * (c * c * s⁻¹) = f * c := by
      have : s ≠ 0 := by grind
      clear h h3 c2 i2 hs
      grind
    rwa [e] at h3
  · intro h
    have h3 := Rat.mul_pos (Rat.mul_pos h i2) hs
    have e : f * c * (c * c)⁻¹ * s = f / c * s := by
      clear h h3 c2 i2 hs
      grind
    rwa [e] at h3
/-- the two tests that a point lies on its rays -/
theorem meet_on {a b c d : Rat} {w v : Int × Int} (hw : Prim w) (hv : Prim v) (hc : crs w v ≠ 0) :
    (((a + jF a b c d v / (crs w v : Rat) * w.1 - a) * w.2 - (b + jF a b c d v / (crs w v : Rat) * w.2 - b) * w.1 = 0 ∧ 0 < (a + jF a b c d v / (crs w v : Rat) * w.1 - a) * w.1 + (b + jF a b c d v / (crs w v : Rat) * w.2 - b) * w.2) ↔ 0 < jF a b c d v * (crs w v : Rat)) ∧
    (((a + jF a b c d v / (crs w v : Rat) * w.1 - c) * v.2 - (b + jF a b c d v / (crs w v : Rat) * w.2 - d) * v.1 = 0 ∧ 0 < (a + jF a b c d v / (crs w v : Rat) * w.1 - c) * v.1 + (b + jF a b c d v / (crs w v : Rat) * w.2 - d) * v.2) ↔ 0 < jF a b c d w * (crs w v : Rat)) := by
  have c0 : (crs w v : Rat) ≠ 0 := fun z => hc (Rat.intCast_eq_zero_iff.mp z)
  have cv : (crs w v : Rat) = (w.1 : Rat) * v.2 - (w.2 : Rat) * v.1 := by unfold crs; simp [Rat.intCast_sub, Rat.intCast_mul]
  have sw := sq_pos hw
  have sv := sq_pos hv
  constructor
  · rw [← sgn1 (u := 0) (f := jF a b c d v) c0 sw]
    have e1 : (a + jF a b c d v / (crs w v : Rat) * w.1 - a) * w.2 - (b + jF a b c d v / (crs w v : Rat) * w.2 - b) * w.1 = 0 := by
      generalize jF a b c d v / (crs w v : Rat) = F
      clear sw sv cv c0
      grind
    have e2 : (a + jF a b c d v / (crs w v : Rat) * w.1 - a) * w.1 + (b + jF a b c d v / (crs w v : Rat) * w.2 - b) * w.2 = jF a b c d v / (crs w v : Rat) * ((w.1 : Rat) * w.1 + (w.2 : Rat) * w.2) := by
      generalize jF a b c d v / (crs w v : Rat) = F
      clear sw sv cv c0 e1
      grind
    rw [e2]
    exact ⟨fun z => z.2, fun z => ⟨e1, z⟩⟩
  · rw [← sgn1 (u := 0) (f := jF a b c d w) c0 sv]
    have e0 : a + jF a b c d v / (crs w v : Rat) * w.1 - c = jF a b c d w / (crs w v : Rat) * v.1 ∧ b + jF a b c d v / (crs w v : Rat) * w.2 - d = jF a b c d w / (crs w v : Rat) * v.2 := by
      unfold jF
      rw [cv] at c0 ⊢
      clear sw sv cv hc
      generalize (w.1 : Rat) = w1 at *
      generalize (w.2 : Rat) = w2 at *
      generalize (v.1 : Rat) = v1 at *
      generalize (v.2 : Rat) = v2 at *
      constructor
      · grind
      · grind
    rw [e0.1, e0.2]
    generalize jF a b c d w / (crs w v : Rat) = G
    have e1 : G * (v.1 : Rat) * v.2 - G * (v.2 : Rat) * v.1 = 0 := by grind
    have e2 : G * (v.1 : Rat) * v.1 + G * (v.2 : Rat) * v.2 = G * ((v.1 : Rat) * v.1 + (v.2 : Rat) * v.2) := by grind
    rw [e2]
    exact ⟨fun z => z.2, fun z => ⟨e1, z⟩⟩
end RE
namespace L
theorem plus_ev (n : Nat) {r s : Rat} {k : Nat} (hr : Sz k r) (hs : Sz k s) (hk : 2 * k ≤ 8999) : lvl (DT rows) (n + 3) "plus" [rt r, rt s] = some (rt (r + s)) := by
  rw [v_plus]
  have hd : ((r.den : Int) * s.den).natAbs < 2 ^ (2 * k) := by
    have := mul_sz (i := r.den) (k := k) (by rw [den_na]; exact hr.2) (j := s.den) (l := k) (by rw [den_na]; exact hs.2)
    rwa [show 2 * k = k + k by omega]
  have f := frac_ev n (r.num * s.den + s.num * r.den) ((r.den : Int) * s.den) (dens_ne r s) hk hd
  rw [add_parts] at f
  simp [b_plus, mul_ev (wim_num hr (by omega)) (wim_den hs (by omega)), mul_ev (wim_num hs (by omega)) (wim_den hr (by omega)), mul_ev (wim_den hr (by omega)) (wim_den hs (by omega)), f]
end L
namespace L
theorem times_ev (n : Nat) {r s : Rat} {k l : Nat} (hr : Sz k r) (hs : Sz l s) (hk : k + l ≤ 8999) : lvl (DT rows) (n + 3) "times" [rt r, rt s] = some (rt (r * s)) := by
  rw [v_times]
  have hd : ((r.den : Int) * s.den).natAbs < 2 ^ (k + l) :=
    mul_sz (i := r.den) (k := k) (by rw [den_na]; exact hr.2) (j := s.den) (l := l) (by rw [den_na]; exact hs.2)
  have f := frac_ev n (r.num * s.num) ((r.den : Int) * s.den) (dens_ne r s) hk hd
  rw [mul_parts] at f
  simp [b_times, mul_ev (wim_num hr (by omega)) (wim_num hs (by omega)), mul_ev (wim_den hr (by omega)) (wim_den hs (by omega)), f]
end L
namespace RE
theorem atI_lt {α : Type} {l : List α} {i : Nat} (h : i < l.length) : L2.atI l (i : Int) = some l[i] := by
  unfold L2.atI L2.ixN
  rw [if_pos (by omega), if_pos (by omega)]
  simp [h]
/-- an index within -/
theorem idx_tup {l : List D} {i : Nat} (h : i < l.length) : idxD (.tup l) (.int (i : Int)) = some l[i] := atI_lt h
theorem idx_lst {l : List D} {i : Nat} (h : i < l.length) : idxD (.lst l) (.int (i : Int)) = some l[i] := atI_lt h
theorem idx_scr {l : List Int} {i : Nat} (h : i < l.length) : idxD (.scr l) (.int (i : Int)) = some (.int l[i]) := by
  show (L2.atI l (i : Int)).map D.int = _
  rw [atI_lt h]; rfl
theorem fits_of {n : Nat} (h : n ≤ 100000) : fits n = true := by
  unfold fits
  exact decide_eq_true (Nat.le_trans h (by decide))
theorem mkLst_ev {ds : List D} (h : ds.length ≤ 100000) : mkLst ds = some (.lst ds) := by
  unfold mkLst; rw [fits_of h]; rfl
theorem add_lst {a b : List D} (h : a.length + b.length ≤ 100000) : addD (.lst a) (.lst b) = some (.lst (a ++ b)) := by
  simp only [addD]; rw [fits_of h]; rfl
theorem add_tup {a b : List D} (h : a.length + b.length ≤ 100000) : addD (.tup a) (.tup b) = some (.tup (a ++ b)) := by
  simp only [addD]; rw [fits_of h]; rfl
theorem small_of {j : Nat} (h : j ≤ 100000) : small62 (j : Int) = true := by
  unfold small62
  rw [decide_eq_true (show -(2 ^ 62) ≤ (j : Int) by omega), decide_eq_true (show (j : Int) < 2 ^ 62 by omega)]; rfl
theorem rng1_ev {j : Nat} (h : j ≤ 100000) : rng1D (.int (j : Int)) = some ((List.range j).map fun i => .int (i : Nat)) := by
  simp only [rng1D]
  rw [small_of h]
  simp [rngL]
theorem fmod_rng (a : Int) {b : Int} (h : 0 < b) : 0 ≤ a.fmod b ∧ a.fmod b < b := ⟨Int.fmod_nonneg_of_pos _ h, Int.fmod_lt_of_pos _ h⟩
theorem cut_nat {α : Type} (xs : List α) (a b : Nat) : cutL xs (some (a : Int)) (some (b : Int)) = (xs.drop a).take (b - a) := by
  unfold cutL
  rw [HT.sIx_nat, HT.sIx_nat]
  by_cases ha : a ≤ xs.length
  · rw [Nat.min_eq_left ha]
    by_cases hb : b ≤ xs.length
    · rw [Nat.min_eq_left hb]
    · rw [Nat.min_eq_right (by omega), List.take_of_length_le (by simp), List.take_of_length_le (by simp; omega)]
  · rw [Nat.min_eq_right (a := a) (by omega), List.drop_eq_nil_of_le (Nat.le_refl _), List.drop_eq_nil_of_le (as := xs) (i := a) (by omega)]
    simp
theorem cut_to {α : Type} (xs : List α) (b : Nat) : cutL xs none (some (b : Int)) = xs.take b := by
  unfold cutL
  rw [HT.sIx_nat, HT.sIx_none, List.drop_zero, Nat.sub_zero]
  by_cases hb : b ≤ xs.length
  · rw [Nat.min_eq_left hb]
  · rw [Nat.min_eq_right (by omega), List.take_length, List.take_of_length_le (by omega)]
theorem cut_from {α : Type} (xs : List α) (a : Nat) : cutL xs (some (a : Int)) none = xs.drop a := by
  unfold cutL
  rw [HT.sIx_nat, HT.sIx_none]
  by_cases ha : a ≤ xs.length
  · rw [Nat.min_eq_left ha, List.take_of_length_le (by simp)]
  · rw [Nat.min_eq_right (by omega), List.drop_eq_nil_of_le (Nat.le_refl _), List.drop_eq_nil_of_le (as := xs) (i := a) (by omega)]
    simp
@[simp] theorem s_cNone (F : Fn) (ρ : RE.Env) : cNone F ρ = some none := (rfl)
@[simp] theorem s_lenT (l : List D) : lenD (.tup l) = some (.int l.length) := (rfl)
@[simp] theorem s_lenL (l : List D) : lenD (.lst l) = some (.int l.length) := (rfl)
@[simp] theorem s_lenS (l : List Int) : lenD (.scr l) = some (.int l.length) := (rfl)
@[simp] theorem s_slT (l : List D) (a b : Option Int) : slcD a b (.tup l) = some (.tup (cutL l a b)) := (rfl)
@[simp] theorem s_slL (l : List D) (a b : Option Int) : slcD a b (.lst l) = some (.lst (cutL l a b)) := (rfl)
end RE
namespace RE
@[simp] theorem s_cPart (f : SE) (F : Fn) (ρ : RE.Env) : cPart f F ρ = (f F ρ).bind fun d => (intD d).map some := (rfl)
@[simp] theorem s_intD (i : Int) : intD (.int i) = some i := (rfl)
@[simp] theorem s_cRng1 (f : SE) (F : Fn) (ρ : RE.Env) : cRng1 f F ρ = (f F ρ).bind rng1D := (rfl)
@[simp] theorem s_walkL (l : List D) : walkL (.lst l) = some l := (rfl)
@[simp] theorem s_walkT (l : List D) : walkL (.tup l) = some l := (rfl)
end RE
namespace RE
def natD (i : Nat) : D := .int (i : Int)
theorem nats_of {l : List Int} (h : ∀ x ∈ l, 0 ≤ x) : l.map D.int = (l.map Int.toNat).map natD := by
  rw [List.map_map]
  refine List.map_congr_left fun x hx => ?_
  have := h x hx
  show D.int x = D.int ((x.toNat : Nat) : Int)
  rw [Int.toNat_of_nonneg this]
theorem idx_nat {ds : List Nat} {i : Nat} (h : i < ds.length) : idxD (.lst (ds.map natD)) (.int (i : Int)) = some (natD ds[i]) := by
  rw [idx_lst (by rw [List.length_map]; exact h), List.getElem_map]
theorem idx_natT {ds : List Nat} {i : Nat} (h : i < ds.length) : idxD (.tup (ds.map natD)) (.int (i : Int)) = some (natD ds[i]) := by
  rw [idx_tup (by rw [List.length_map]; exact h), List.getElem_map]
theorem modN (a b : Nat) (hb : b ≠ 0) : modD (natD a) (.int (b : Int)) = some (natD (a % b)) := by
  unfold natD
  rw [mod_nat _ _ hb]
  exact congrArg (fun z => some (D.int z)) (fmod_nn a b)
theorem mod_rng {x : Int} {b : Nat} (hb : b ≠ 0) : ∃ j : Nat, j < b ∧ modD (.int x) (.int (b : Int)) = some (natD j) := by
  have h := fmod_rng x (show (0 : Int) < b by omega)
  refine ⟨(x.fmod b).toNat, by omega, ?_⟩
  rw [mod_nat _ _ hb]
  unfold natD
  rw [Int.toNat_of_nonneg h.1]
theorem cut_natL (ds : List Nat) (lo hi : Option Int) : cutL (ds.map natD) lo hi = (cutL ds lo hi).map natD := by
  unfold cutL
  rw [List.length_map, List.map_take, List.map_drop]
@[simp] theorem s_cEnum (f : SE) (F : Fn) (ρ : RE.Env) : cEnum f F ρ = ((f F ρ).bind walkL).map (enumL 0) := (rfl)
@[simp] theorem s_sPut (j : Nat) (f g : SE) (F : Fn) (ρ : RE.Env) : sPut j f g F ρ = (g F ρ).bind fun v => (cV j F ρ).bind fun o => (f F ρ).bind fun k => (putD o k v).map fun d => .nx (ρ.set j (some d)) := (rfl)
theorem put_lst {l : List D} {i : Nat} (h : i < l.length) (v : D) : putD (.lst l) (.int (i : Int)) v = some (.lst (l.set i v)) := by
  simp only [putD, L2.ixN]
  rw [if_pos (by omega), if_pos (by omega)]
  simp
@[simp] theorem s_revL (l : List D) : revD (.lst l) = some (.lst l.reverse) := (rfl)
@[simp] theorem s_revT (l : List D) : revD (.tup l) = some (.tup l.reverse) := (rfl)
@[simp] theorem s_listL (l : List D) : listDD (.lst l) = some (.lst l) := (rfl)
@[simp] theorem s_listT (l : List D) : listDD (.tup l) = some (.lst l) := (rfl)
@[simp] theorem s_tupleL (l : List D) : tupleD (.lst l) = some (.tup l) := (rfl)
@[simp] theorem s_tupleT (l : List D) : tupleD (.tup l) = some (.tup l) := (rfl)
@[simp] theorem s_isDicLst (l : List D) : isDic (.lst l) = false := (rfl)
@[simp] theorem s_isDicTup (l : List D) : isDic (.tup l) = false := (rfl)
@[simp] theorem s_isDicInt (i : Int) : isDic (.int i) = false := (rfl)
end RE
namespace RE
theorem wipeE_nil (ρ : RE.Env) : wipeE ρ [] = ρ := (rfl)
theorem wipeE_cons (ρ : RE.Env) (v : Nat) (vs : List Nat) : wipeE ρ (v :: vs) = (wipeE ρ vs).set v none := (rfl)
/-- a comprehension whose every turn gives -/
theorem lc_all {one : D → Option (List D)} {f : D → D} : ∀ {l : List D}, (∀ d ∈ l, one d = some [f d]) → lcAll one l = some (l.map f)
  | [], _ => rfl
  | d :: l, h => by
    simp only [lcAll]
    rw [h d List.mem_cons_self, lc_all fun e he => h e (List.mem_cons_of_mem _ he)]
    rfl
theorem lc_flat {one : D → Option (List D)} {f : D → List D} : ∀ {l : List D}, (∀ d ∈ l, one d = some (f d)) → lcAll one l = some (l.flatMap f)
  | [], _ => rfl
  | d :: l, h => by
    simp only [lcAll]
    rw [h d List.mem_cons_self, lc_flat fun e he => h e (List.mem_cons_of_mem _ he)]
    rfl
/-- a comprehension whose turns give something with a property -/
theorem lc_ex {α : Type} {one : D → Option (List D)} {P : α → D → Prop} {f : α → D} : ∀ {l : List α}, (∀ a ∈ l, ∃ y, one (f a) = some [y] ∧ P a y) → ∃ ys : List D, ys.length = l.length ∧ lcAll one (l.map f) = some ys ∧ ∀ y ∈ ys, ∃ a ∈ l, P a y
  | [], _ => ⟨[], rfl, rfl, by simp⟩
  | d :: l, h => by
    obtain ⟨y, h1, h2⟩ := h d List.mem_cons_self
    obtain ⟨ys, g1, g2, g3⟩ := lc_ex (l := l) fun e he => h e (List.mem_cons_of_mem _ he)
    refine ⟨y :: ys, by simp [g1], ?_, ?_⟩
    · simp only [List.map_cons, lcAll]
      rw [h1, g2]; rfl
    · intro z hz
      rcases List.mem_cons.mp hz with rfl | hz
      · exact ⟨d, List.mem_cons_self, h2⟩
      · obtain ⟨a, ha, hp⟩ := g3 z hz
        exact ⟨a, List.mem_cons_of_mem _ ha, hp⟩
end RE
namespace RE
theorem lc_map {α : Type} {one : D → Option (List D)} {f g : α → D} : ∀ {l : List α}, (∀ a ∈ l, one (f a) = some [g a]) → lcAll one (l.map f) = some (l.map g)
  | [], _ => rfl
  | d :: l, h => by
    simp only [List.map_cons, lcAll]
    rw [h d List.mem_cons_self, lc_map fun e he => h e (List.mem_cons_of_mem _ he)]
    rfl
/-- which turns are kept -/
theorem lc_filter {α : Type} {one : D → Option (List D)} {f g : α → D} {p : α → Bool} : ∀ {l : List α}, (∀ a ∈ l, one (f a) = some (if p a then [g a] else [])) → lcAll one (l.map f) = some ((l.filter p).map g)
  | [], _ => rfl
  | d :: l, h => by
    simp only [List.map_cons, lcAll]
    rw [h d List.mem_cons_self, lc_filter fun e he => h e (List.mem_cons_of_mem _ he)]
    cases hp : p d <;> simp [hp]
end RE
namespace RE
/-- a loop by its invariant -/
theorem for_inv {asg : SG} {body : RE.Env → Option Res} (I : Nat → RE.Env → Prop) : ∀ (l : List D) (k : Nat) (ρ : RE.Env), I k ρ → (∀ i (hi : i < l.length) ρ, I (k + i) ρ → ∃ ρ2, ((asg l[i] ρ).bind body) = some (.nx ρ2) ∧ I (k + i + 1) ρ2) → ∃ ρ', forD asg body l ρ = some (.nx ρ') ∧ I (k + l.length) ρ'
  | [], k, ρ, h, _ => ⟨ρ, rfl, h⟩
  | d :: l, k, ρ, h, g => by
    obtain ⟨ρ2, h1, h2⟩ := g 0 (by simp) ρ h
    obtain ⟨ρ', h3, h4⟩ := for_inv I l (k + 1) ρ2 h2 fun i hi ρ hI => by
      have := g (i + 1) (by simpa using hi) ρ (by rw [show k + (i + 1) = k + 1 + i by omega]; exact hI)
      rw [show k + 1 + i + 1 = k + (i + 1) + 1 by omega]
      simpa using this
    refine ⟨ρ', ?_, by rw [List.length_cons, show k + (l.length + 1) = k + 1 + l.length by omega]; exact h4⟩
    obtain ⟨ρ1, e1, e2⟩ := Option.bind_eq_some_iff.mp h1
    have e1 : asg d ρ = some ρ1 := e1
    rw [forD, e1, obS, e2]
    exact h3
/-- the same, where the list may be left early with an answer -/
theorem for_invR {asg : SG} {body : RE.Env → Option Res} (I : Nat → RE.Env → Prop) (R : Res → Prop) : ∀ (l : List D) (k : Nat) (ρ : RE.Env), I k ρ → (∀ i (hi : i < l.length) ρ, I (k + i) ρ → ∃ r, ((asg l[i] ρ).bind body) = some r ∧ ((∃ ρ2, r = .nx ρ2 ∧ I (k + i + 1) ρ2) ∨ ((∃ b v, r = .rt b v) ∧ R r))) → ∃ r, forD asg body l ρ = some r ∧ ((∃ ρ', r = .nx ρ' ∧ I (k + l.length) ρ') ∨ ((∃ b v, r = .rt b v) ∧ R r))
  | [], k, ρ, h, _ => ⟨_, rfl, .inl ⟨ρ, rfl, h⟩⟩
  | d :: l, k, ρ, h, g => by
    obtain ⟨r, h1, h2⟩ := g 0 (by simp) ρ h
    obtain ⟨ρ1, e1, e2⟩ := Option.bind_eq_some_iff.mp h1
    have e1 : asg d ρ = some ρ1 := e1
    rcases h2 with ⟨ρ2, rfl, h2⟩ | ⟨⟨b, v, rfl⟩, h2⟩
    · obtain ⟨r, h3, h4⟩ := for_invR I R l (k + 1) ρ2 h2 fun i hi ρ hI => by
        have := g (i + 1) (by simpa using hi) ρ (by rw [show k + (i + 1) = k + 1 + i by omega]; exact hI)
        rw [show k + 1 + i + 1 = k + (i + 1) + 1 by omega]
        simpa using this
      refine ⟨r, ?_, by rw [List.length_cons, show k + (l.length + 1) = k + 1 + l.length by omega]; exact h4⟩
      rw [forD, e1, obS, e2]
      exact h3
    · refine ⟨.rt b v, ?_, .inr ⟨⟨b, v, rfl⟩, h2⟩⟩
      rw [forD, e1, obS, e2]
      rfl
end RE
namespace L
theorem cell_ev (n : Nat) (ns : List Int) (k : Nat) (hn : ns.length ≤ 63) (hk : k ≤ 1000) : ∃ c : Int, lvl (DT rows) (n + 1) "_law_cell" [.scr ns, .int (k : Int)] = some (.int c) := by
  rw [v__law_cell]
  have m := mul_ev (i := 7919) (j := (k : Int)) (by decide) (wim_of (k := 20) (by omega) (by decide))
  by_cases h1 : (k : Int) < (ns.length : Int)
  · refine ⟨ns[k]'(by omega), ?_⟩
    simp [b__law_cell, h1, idx_scr (show k < ns.length by omega)]
  · by_cases h2 : ns = []
    · subst h2
      refine ⟨7919 * k + 101, ?_⟩
      have h1 : ¬ (k : Int) < 0 := by omega
      simp [b__law_cell, m, h1]
    · have h3 : 0 < ns.length := List.length_pos_iff.mpr h2
      have h4 : (ns.length : Int) ≠ 0 := by omega
      have e := mod_ev (i := (k : Int)) h4
      rw [fmod_nn] at e
      have hl := Nat.mod_lt k h3
      refine ⟨(ns[k % ns.length]'hl).fmod 1000003 + 7919 * k, ?_⟩
      have e2 := mod_ev (i := ns[k % ns.length]'hl) (j := 1000003) (by decide)
      have i2 := idx_scr hl
      simp only [b__law_cell, s_sSeq, s_sIf, s_cBT, s_cV0, s_cVs, s_cCall, s_cCons, s_cNil, obS, s_op1, s_lenS, ltI, s_boolD, h1, decide_false, Bool.false_eq_true, if_false, s_sNil, eqI, s_cC, h4, s_sRet, s_cB, s_cIx, e, i2, e2, m, s_addI, omS, s_finR]
      rfl
end L
namespace RE
def primesI : List Int := [2147483647, 2147483629, 2147483587, 2147483579, 2147483563, 2147483549, 2147483543, 2147483497]
def primesD : List D := primesI.map .int
noncomputable def drawB : SS := (sSeq (sAsg (cB mulD (cB modD (cV 5) (cIx (cV 4) (cB modD (cV 8) (cC (.int 8))))) (cB addD (cC (.int 48271)) (cB mulD (cB mulD (cC (.int 2)) (cV 8)) (cV 8)))) (gN 9)) (sSeq (sAsg (cB addD (cB addD (cV 9) (cB mulD (cB mulD (cC (.int 7919)) (cB addD (cV 8) (cC (.int 1)))) (cB addD (cV 8) (cC (.int 1))))) (cB mulD (cC (.int 104729)) (cV 1))) (gN 9)) (sSeq (sAsg (cB modD (cV 9) (cIx (cV 4) (cB modD (cB addD (cB mulD (cC (.int 3)) (cV 8)) (cV 1)) (cC (.int 8))))) (gN 9)) (sSeq (sAsg (cB modD (cB mulD (cB mulD (cV 9) (cV 9)) (cV 9)) (cIx (cV 4) (cB modD (cB addD (cV 8) (cC (.int 5))) (cC (.int 8))))) (gN 9)) (sSeq (sIf (cBT gtD (cV 6) (cC (.int 0))) (sSeq (sAsg (cV 6) (gN 9)) (sNil)) (sNil)) (sSeq (sApp 7 (cB modD (cV 9) (cV 3))) (sSeq (sAsg (cB fdivD (cV 6) (cV 3)) (gN 6)) (sNil))))))))
theorem prime_at (i : Nat) : ∃ p : Int, 0 < p ∧ p < 2 ^ 31 ∧ idxD (.tup primesD) (.int ((i % 8 : Nat) : Int)) = some (.int p) := by
  have hl : i % 8 < primesD.length := by
    have : i % 8 < 8 := Nat.mod_lt _ (by decide)
    exact this
  have hI : i % 8 < primesI.length := hl
  have hb : ∀ x ∈ primesI, 0 < x ∧ x < 2 ^ 31 := by decide
  refine ⟨primesI[i % 8], (hb _ (List.getElem_mem hI)).1, (hb _ (List.getElem_mem hI)).2, ?_⟩
  rw [idx_tup hl]
  simp [primesD]
theorem mod8 (i : Nat) : modD (.int (i : Int)) (.int 8) = some (.int ((i % 8 : Nat) : Int)) := by
  rw [mod_ev (by decide)]
  exact congrArg (fun z => some (D.int z)) (fmod_nn i 8)
theorem mk8 : mkTup [.int 2147483647, .int 2147483629, .int 2147483587, .int 2147483579, .int 2147483563, .int 2147483549, .int 2147483543, .int 2147483497] = some (.tup primesD) := rfl
theorem mk0 : mkLst [] = some (.lst []) := rfl
theorem isDicL (l : List D) : isDic (.lst l) = false := rfl
/-- one turn -/
theorem draw_step (F : Fn) (s m : D) (k j : Nat) (base cell rest : Int) (row : List D) (x9 : Option D) (hk : k ≤ 1000) (hj : j ≤ 1000) (hb : 0 < base) (hb2 : base < 2 ^ 31) (hr : row.length < 100000) :
    ∃ (d rest' y9 : Int), 0 ≤ d ∧ d < base ∧ drawB F [some s, some (.int (k : Int)), some m, some (.int base), some (.tup primesD), some (.int cell), some (.int rest), some (.lst row), some (.int (j : Int)), x9] =
      some (.nx [some s, some (.int (k : Int)), some m, some (.int base), some (.tup primesD), some (.int cell), some (.int rest'), some (.lst (row ++ [.int d])), some (.int (j : Int)), some (.int y9)]) := by
  obtain ⟨p1, a1, b1, c1⟩ := prime_at j
  obtain ⟨p2, a2, b2, c2⟩ := prime_at (3 * j + k)
  obtain ⟨p3, a3, b3, c3⟩ := prime_at (j + 5)
  have e1 := mod8 j
  have e2 := mod8 (3 * j + k)
  have e3 := mod8 (j + 5)
  have f1 := mod_ev (i := cell) (j := p1) (by omega)
  have r1 := fmod_rng cell a1
  have w1 : wim (cell.fmod p1) = true := wim_of (k := 31) (by omega) (by decide)
  have m1 := mul_ev (i := 2) (j := (j : Int)) (by decide) (wim_of (k := 11) (by omega) (by decide))
  have m2 := mul_ev (i := 2 * (j : Int)) (j := (j : Int)) (wim_of (k := 12) (by omega) (by decide)) (wim_of (k := 11) (by omega) (by decide))
  have z1 : (2 * (j : Int) * j).natAbs < 2 ^ 23 := mul_sz (k := 12) (l := 11) (by omega) (by omega)
  have m3 := mul_ev (i := cell.fmod p1) (j := 48271 + 2 * (j : Int) * j) w1 (wim_of (k := 25) (by omega) (by decide))
  have m4 := mul_ev (i := 7919) (j := (j : Int) + 1) (by decide) (wim_of (k := 12) (by omega) (by decide))
  have m5 := mul_ev (i := 7919 * ((j : Int) + 1)) (j := (j : Int) + 1) (wim_of (k := 30) (by omega) (by decide)) (wim_of (k := 12) (by omega) (by decide))
  have m6 := mul_ev (i := 104729) (j := (k : Int)) (by decide) (wim_of (k := 12) (by omega) (by decide))
  have m7 := mul_ev (i := 3) (j := (j : Int)) (by decide) (wim_of (k := 12) (by omega) (by decide))
  generalize hA : cell.fmod p1 * (48271 + 2 * (j : Int) * j) + 7919 * ((j : Int) + 1) * ((j : Int) + 1) + 104729 * (k : Int) = A
  have f2 := mod_ev (i := A) (j := p2) (by omega)
  have r2 := fmod_rng A a2
  generalize hB : A.fmod p2 = B at *
  have m8 := mul_ev (i := B) (j := B) (wim_of (k := 31) (by omega) (by decide)) (wim_of (k := 31) (by omega) (by decide))
  have z2 : (B * B).natAbs < 2 ^ 62 := mul_sz (k := 31) (l := 31) (by omega) (by omega)
  have m9 := mul_ev (i := B * B) (j := B) (wim_of z2 (by decide)) (wim_of (k := 31) (by omega) (by decide))
  have f3 := mod_ev (i := B * B * B) (j := p3) (by omega)
  have f4 : ∀ x : Int, modD (.int x) (.int base) = some (.int (x.fmod base)) := fun x => mod_ev (by omega)
  have f5 := fdiv_ev (i := rest) (j := base) (by omega) (wid_of (k := 31) (by omega) (by decide))
  have q2 : (3 * (j : Int) + (k : Int)) = ((3 * j + k : Nat) : Int) := by omega
  have q3 : ((j : Int) + 5) = ((j + 5 : Nat) : Int) := by omega
  have hf := fits_of (n := row.length + 1) (by omega)
  by_cases hp : 0 < rest
  · refine ⟨rest.fmod base, rest.fdiv base, rest, (fmod_rng _ hb).1, (fmod_rng _ hb).2, ?_⟩
    simp only [s_sSeq, s_sNil, s_sRet, s_sRetT, s_sIf, s_sAsg, s_sPar, s_sSetM, s_cND, s_cC, s_cB, s_cU, s_cTup, s_cLst, s_cNil, s_cCons, s_cCall, s_cFn, s_cIx, s_cAnd, s_cOr, s_cNot, s_cIf, s_cTr, s_cBT, s_cAndT, s_cOrT, s_cNotT, s_cCh, s_cChT, s_cSl, s_sFor, s_cWalk, s_cLc, s_lcOne, s_cTrue, s_sApp, s_gN, s_gT, s_gsNil, s_gsCons, s_cV0, s_cVs, s_finR, s_finN, s_boolD, s_truB, s_setAll0, s_setAll1, s_op1, s_op2, s_abs, s_addI, s_subI, eqI, neI, ltI, gtI, leI, geI, mkTup1, mkTup2, mkTup3, idx_t0, idx_t1, idx_t2, obS, omS, List.set_cons_zero, List.set_cons_succ, s_cNone, s_cPart, s_intD, s_cRng1, s_walkL, s_walkT, s_lenT, s_lenL, s_lenS, s_slT, s_slL, if_true, if_false, decide_true, decide_false, Bool.not_true, Bool.not_false, Bool.and_true, Bool.and_false, Bool.true_and, Bool.false_and, Bool.false_eq_true, decide_eq_true_eq, drawB, e1, c1, f1, m1, m2, m3, m4, m5, m6, m7, hA, q2, e2, c2, f2, q3, e3, c3, m8, m9, f3, hp, f4, f5, hf]
  · refine ⟨((B * B * B).fmod p3).fmod base, rest.fdiv base, (B * B * B).fmod p3, (fmod_rng _ hb).1, (fmod_rng _ hb).2, ?_⟩
    simp only [s_sSeq, s_sNil, s_sRet, s_sRetT, s_sIf, s_sAsg, s_sPar, s_sSetM, s_cND, s_cC, s_cB, s_cU, s_cTup, s_cLst, s_cNil, s_cCons, s_cCall, s_cFn, s_cIx, s_cAnd, s_cOr, s_cNot, s_cIf, s_cTr, s_cBT, s_cAndT, s_cOrT, s_cNotT, s_cCh, s_cChT, s_cSl, s_sFor, s_cWalk, s_cLc, s_lcOne, s_cTrue, s_sApp, s_gN, s_gT, s_gsNil, s_gsCons, s_cV0, s_cVs, s_finR, s_finN, s_boolD, s_truB, s_setAll0, s_setAll1, s_op1, s_op2, s_abs, s_addI, s_subI, eqI, neI, ltI, gtI, leI, geI, mkTup1, mkTup2, mkTup3, idx_t0, idx_t1, idx_t2, obS, omS, List.set_cons_zero, List.set_cons_succ, s_cNone, s_cPart, s_intD, s_cRng1, s_walkL, s_walkT, s_lenT, s_lenL, s_lenS, s_slT, s_slL, if_true, if_false, decide_true, decide_false, Bool.not_true, Bool.not_false, Bool.and_true, Bool.and_false, Bool.true_and, Bool.false_and, Bool.false_eq_true, decide_eq_true_eq, drawB, e1, c1, f1, m1, m2, m3, m4, m5, m6, m7, hA, q2, e2, c2, f2, q3, e3, c3, m8, m9, f3, hp, f4, f5, hf]
/-- the whole loop -/
theorem draw_loop (F : Fn) (s m : D) (k : Nat) (base cell : Int) (hk : k ≤ 1000) (hb : 0 < base) (hb2 : base < 2 ^ 31) : ∀ (js : List Nat) (rest : Int) (row : List Int) (x8 x9 : Option D), (∀ j ∈ js, j ≤ 1000) → row.length + js.length ≤ 1000 →
    ∃ (out : List Int) (rest' : Int) (y8 y9 : Option D), out.length = js.length ∧ (∀ x ∈ out, 0 ≤ x ∧ x < base) ∧ forD (gN 8) (drawB F) (js.map fun i => .int (i : Nat)) [some s, some (.int (k : Int)), some m, some (.int base), some (.tup primesD), some (.int cell), some (.int rest), some (.lst (row.map .int)), x8, x9] =
      some (.nx [some s, some (.int (k : Int)), some m, some (.int base), some (.tup primesD), some (.int cell), some (.int rest'), some (.lst ((row ++ out).map .int)), y8, y9])
  | [], rest, row, x8, x9, _, _ => ⟨[], rest, x8, x9, rfl, by simp, by simp [forD]⟩
  | j :: js, rest, row, x8, x9, hj, hl => by
    rw [List.length_cons] at hl
    obtain ⟨d, r1, y9, h1, h2, h3⟩ := draw_step F s m k j base cell rest (row.map .int) x9 hk (hj j List.mem_cons_self) hb hb2 (by rw [List.length_map]; omega)
    obtain ⟨out, r2, y8, y9', h4, h5, h6⟩ := draw_loop F s m k base cell hk hb hb2 js r1 (row ++ [d]) (some (.int (j : Int))) (some (.int y9)) (fun i hi => hj i (List.mem_cons_of_mem _ hi)) (by simp; omega)
    refine ⟨d :: out, r2, y8, y9', by simp [h4], ?_, ?_⟩
    · intro x hx
      rcases List.mem_cons.mp hx with rfl | hx
      · exact ⟨h1, h2⟩
      · exact h5 x hx
    · rw [List.map_cons, forD]
      simp only [s_gN, obS, List.set_cons_succ, List.set_cons_zero]
      rw [h3]
      simp only [obS]
      rw [List.map_append] at h6
      have e : (row ++ [d]) ++ out = row ++ d :: out := by simp
      rw [e] at h6
      exact h6
end RE
namespace L
theorem draws_eq : b__law_draws = sSeq (sAsg (cTup (cCons (cC (.int 2147483647)) (cCons (cC (.int 2147483629)) (cCons (cC (.int 2147483587)) (cCons (cC (.int 2147483579)) (cCons (cC (.int 2147483563)) (cCons (cC (.int 2147483549)) (cCons (cC (.int 2147483543)) (cCons (cC (.int 2147483497)) (cNil)))))))))) (gN 4)) (sSeq (sAsg (cFn "_law_cell" (cCons (cV 0) (cCons (cV 1) (cNil)))) (gN 5)) (sSeq (sAsg (cC (.int 0)) (gN 6)) (sSeq (sIf (cBT geD (cV 5) (cB powD (cC (.int 10)) (cC (.int 18)))) (sSeq (sAsg (cV 5) (gN 6)) (sNil)) (sNil)) (sSeq (sSetM 7 (cND (cLst (cNil)))) (sSeq (sFor (cRng1 (cV 2)) (gN 8) drawB) (sSeq (sRet (cV 7)) (sNil))))))) := rfl
theorem draws_pre (F : Fn) (R : SS) (s m : D) (k base c : Int) (hc : F "_law_cell" [s, .int k] = some (.int c)) : ∃ rest : Int, (sSeq (sAsg (cTup (cCons (cC (.int 2147483647)) (cCons (cC (.int 2147483629)) (cCons (cC (.int 2147483587)) (cCons (cC (.int 2147483579)) (cCons (cC (.int 2147483563)) (cCons (cC (.int 2147483549)) (cCons (cC (.int 2147483543)) (cCons (cC (.int 2147483497)) (cNil)))))))))) (gN 4)) (sSeq (sAsg (cFn "_law_cell" (cCons (cV 0) (cCons (cV 1) (cNil)))) (gN 5)) (sSeq (sAsg (cC (.int 0)) (gN 6)) (sSeq (sIf (cBT geD (cV 5) (cB powD (cC (.int 10)) (cC (.int 18)))) (sSeq (sAsg (cV 5) (gN 6)) (sNil)) (sNil)) (sSeq (sSetM 7 (cND (cLst (cNil)))) R))))) F [some s, some (.int k), some m, some (.int base), none, none, none, none, none, none] = R F [some s, some (.int k), some m, some (.int base), some (.tup primesD), some (.int c), some (.int rest), some (.lst []), none, none] := by
  have pw : powD (.int 10) (.int 18) = some (.int 1000000000000000000) := by simp [powD]
  by_cases hp : (1000000000000000000 : Int) ≤ c
  · refine ⟨c, ?_⟩
    simp only [s_sSeq, s_sNil, s_sRet, s_sRetT, s_sIf, s_sAsg, s_sPar, s_sSetM, s_cND, s_cC, s_cB, s_cU, s_cTup, s_cLst, s_cNil, s_cCons, s_cCall, s_cFn, s_cIx, s_cAnd, s_cOr, s_cNot, s_cIf, s_cTr, s_cBT, s_cAndT, s_cOrT, s_cNotT, s_cCh, s_cChT, s_cSl, s_sFor, s_cWalk, s_cLc, s_lcOne, s_cTrue, s_sApp, s_gN, s_gT, s_gsNil, s_gsCons, s_cV0, s_cVs, s_finR, s_finN, s_boolD, s_truB, s_setAll0, s_setAll1, s_op1, s_op2, s_abs, s_addI, s_subI, eqI, neI, ltI, gtI, leI, geI, mkTup1, mkTup2, mkTup3, idx_t0, idx_t1, idx_t2, obS, omS, List.set_cons_zero, List.set_cons_succ, s_cNone, s_cPart, s_intD, s_cRng1, s_walkL, s_walkT, s_lenT, s_lenL, s_lenS, s_slT, s_slL, if_true, if_false, decide_true, decide_false, Bool.not_true, Bool.not_false, Bool.and_true, Bool.and_false, Bool.true_and, Bool.false_and, Bool.false_eq_true, decide_eq_true_eq, hc, pw, hp, mk8, mk0, isDicL]
  · refine ⟨0, ?_⟩
    simp only [s_sSeq, s_sNil, s_sRet, s_sRetT, s_sIf, s_sAsg, s_sPar, s_sSetM, s_cND, s_cC, s_cB, s_cU, s_cTup, s_cLst, s_cNil, s_cCons, s_cCall, s_cFn, s_cIx, s_cAnd, s_cOr, s_cNot, s_cIf, s_cTr, s_cBT, s_cAndT, s_cOrT, s_cNotT, s_cCh, s_cChT, s_cSl, s_sFor, s_cWalk, s_cLc, s_lcOne, s_cTrue, s_sApp, s_gN, s_gT, s_gsNil, s_gsCons, s_cV0, s_cVs, s_finR, s_finN, s_boolD, s_truB, s_setAll0, s_setAll1, s_op1, s_op2, s_abs, s_addI, s_subI, eqI, neI, ltI, gtI, leI, geI, mkTup1, mkTup2, mkTup3, idx_t0, idx_t1, idx_t2, obS, omS, List.set_cons_zero, List.set_cons_succ, s_cNone, s_cPart, s_intD, s_cRng1, s_walkL, s_walkT, s_lenT, s_lenL, s_lenS, s_slT, s_slL, if_true, if_false, decide_true, decide_false, Bool.not_true, Bool.not_false, Bool.and_true, Bool.and_false, Bool.true_and, Bool.false_and, Bool.false_eq_true, decide_eq_true_eq, hc, pw, hp, mk8, mk0, isDicL]
theorem draws_post (F : Fn) (many : Nat) (base c : Int) (rest : Int) (out : List Int) (r' : Int) (y8 y9 : Option D) (hr : rng1D (.int (many : Int)) = some ((List.range many).map fun i => .int (i : Nat)))
   (s : D) (k : Int) (h3 : forD (gN 8) (drawB F) ((List.range many).map fun i => .int (i : Nat)) [some s, some (.int (k : Int)), some (.int (many : Int)), some (.int base), some (.tup primesD), some (.int c), some (.int rest), some (.lst []), none, none] =
      some (.nx [some s, some (.int (k : Int)), some (.int (many : Int)), some (.int base), some (.tup primesD), some (.int c), some (.int r'), some (.lst (out.map .int)), y8, y9])) :
    ((sSeq (sFor (cRng1 (cV 2)) (gN 8) drawB) (sSeq (sRet (cV 7)) (sNil))) F [some s, some (.int (k : Int)), some (.int (many : Int)), some (.int base), some (.tup primesD), some (.int c), some (.int rest), some (.lst []), none, none]).bind (fin false) = some (.lst (out.map .int)) := by
  have e1 : sFor (cRng1 (cV 2)) (gN 8) drawB F [some s, some (.int (k : Int)), some (.int (many : Int)), some (.int base), some (.tup primesD), some (.int c), some (.int rest), some (.lst []), none, none] = some (.nx [some s, some (.int (k : Int)), some (.int (many : Int)), some (.int base), some (.tup primesD), some (.int c), some (.int r'), some (.lst (out.map .int)), y8, y9]) := by
    rw [s_sFor, s_cRng1, s_cVs, s_cVs, s_cV0, obS, hr, obS]
    exact h3
  rw [s_sSeq, e1]
  rfl
theorem draws_ev (n : Nat) (ns : List Int) (k many : Nat) (base : Int) (hn : ns.length ≤ 63) (hk : k ≤ 1000) (hm : many ≤ 1000) (hb : 0 < base) (hb2 : base < 2 ^ 31) :
    ∃ out : List Int, out.length = many ∧ (∀ x ∈ out, 0 ≤ x ∧ x < base) ∧ lvl (DT rows) (n + 2) "_law_draws" [.scr ns, .int (k : Int), .int (many : Int), .int base] = some (.lst (out.map .int)) := by
  obtain ⟨c, hc⟩ := cell_ev n ns k hn hk
  rw [v__law_draws, draws_eq]
  obtain ⟨rest, e⟩ := draws_pre (lvl (DT rows) (n + 1)) (sSeq (sFor (cRng1 (cV 2)) (gN 8) drawB) (sSeq (sRet (cV 7)) (sNil))) (.scr ns) (.int (many : Int)) (k : Int) base c hc
  rw [e]
  obtain ⟨out, r', y8, y9, h1, h2, h3⟩ := draw_loop (lvl (DT rows) (n + 1)) (.scr ns) (.int (many : Int)) k base c hk hb hb2 (List.range many) rest [] none none (fun j hj => by have := List.mem_range.mp hj; omega) (by simp; omega)
  have hr : rng1D (.int (many : Int)) = some ((List.range many).map fun i => .int (i : Nat)) := rng1_ev (by omega)
  exact ⟨out, by rw [h1, List.length_range], h2, draws_post _ many base c rest out r' y8 y9 hr _ _ h3⟩
end L
namespace RE
def lowI (p : Int × Int) : Int × Int := (p.1.fdiv (Int.gcd p.1 p.2), p.2.fdiv (Int.gcd p.1 p.2))
theorem low_prim {p : Int × Int} (h : p ≠ (0, 0)) : Prim (lowI p) ∧ (lowI p).1.natAbs ≤ p.1.natAbs ∧ (lowI p).2.natAbs ≤ p.2.natAbs := by
  obtain ⟨a, b⟩ := p
  have hab : a ≠ 0 ∨ b ≠ 0 := by
    by_cases h1 : a = 0
    · right; intro h2; exact h (by rw [h1, h2])
    · left; exact h1
  unfold lowI Prim
  simp only
  have hg : 0 < Int.gcd a b := Int.gcd_pos_iff.mpr hab
  have d1 : (Int.gcd a b : Int) ∣ a := Int.gcd_dvd_left ..
  have d2 : (Int.gcd a b : Int) ∣ b := Int.gcd_dvd_right ..
  obtain ⟨p, hp⟩ := d1
  obtain ⟨q, hq⟩ := d2
  have hg0 : (Int.gcd a b : Int) ≠ 0 := by omega
  have cut : ∀ (a p g : Int), g ≠ 0 → a = g * p → a.fdiv g = p := fun a p g hg e => by rw [e]; exact Int.mul_fdiv_cancel_left _ hg
  rw [cut _ _ _ hg0 hp, cut _ _ _ hg0 hq]
  have hgg : Int.gcd a b = Int.gcd a b * Int.gcd p q := by
    have := Int.gcd_mul_left (Int.gcd a b : Int) p q
    rw [← hp, ← hq] at this
    simpa using this
  have hpq : Int.gcd p q = 1 := by
    have : Int.gcd a b * 1 = Int.gcd a b * Int.gcd p q := by rw [Nat.mul_one]; exact hgg
    exact (Nat.eq_of_mul_eq_mul_left hg this).symm
  have bd : ∀ (a p : Int), a = (Int.gcd (p * 0 + a) 0 : Int) * p ∨ True := fun _ _ => .inr trivial
  have le : ∀ (x y : Int) (g : Nat), 0 < g → x = (g : Int) * y → y.natAbs ≤ x.natAbs := fun x y g hg e => by
    rw [e, Int.natAbs_mul, Int.natAbs_natCast]
    exact Nat.le_mul_of_pos_left _ hg
  exact ⟨hpq, le _ _ _ hg hp, le _ _ _ hg hq⟩
theorem divInt_small {u : Int} {l : Nat} (h1 : u.natAbs < 2 ^ 8) (h2 : 0 < l) (h3 : l < 2 ^ 8) : Sz 8 (Rat.divInt u l) := divInt_sz (by omega) h1 (by simpa using h3)
theorem modk (i k : Nat) (h : 0 < k) : modD (.int (i : Int)) (.int (k : Int)) = some (.int ((i % k : Nat) : Int)) := by
  rw [mod_ev (by omega)]
  exact congrArg (fun z => some (D.int z)) (fmod_nn i k)
theorem fdivk (i k : Nat) (h : 0 < k) (h2 : k < 2 ^ 30) : fdivD (.int (i : Int)) (.int (k : Int)) = some (.int ((i / k : Nat) : Int)) := by
  rw [fdiv_ev (by omega) (wid_of (k := 30) (by simpa using h2) (by decide))]
  rw [Int.fdiv_eq_ediv_of_nonneg _ (by omega)]
  rfl
end RE
namespace L
theorem lowest_ev (n : Nat) {p : Int × Int} (h : p ≠ (0, 0)) (h1 : p.1.natAbs < 2 ^ 20) (h2 : p.2.natAbs < 2 ^ 20) : lvl (DT rows) (n + 2) "_law_lowest" [wy p] = some (wy (lowI p)) := by
  rw [v__law_lowest]
  have hg : (Int.gcd p.1 p.2 : Int) ≠ 0 := fun z => h (by
    have z := Int.gcd_eq_zero_iff.mp (show Int.gcd p.1 p.2 = 0 by omega)
    exact Prod.ext z.1 z.2)
  have hw := wid_of (gcd_sz h1 h2) (by decide)
  have g1 := fdiv_ev (i := p.1) hg hw
  have g2 := fdiv_ev (i := p.2) hg hw
  have b := by_ev n p.1 p.2
  simp only [s_sSeq, s_sNil, s_sRet, s_sRetT, s_sIf, s_sAsg, s_sPar, s_sSetM, s_cND, s_cC, s_cB, s_cU, s_cTup, s_cLst, s_cNil, s_cCons, s_cCall, s_cFn, s_cIx, s_cAnd, s_cOr, s_cNot, s_cIf, s_cTr, s_cBT, s_cAndT, s_cOrT, s_cNotT, s_cCh, s_cChT, s_cSl, s_sFor, s_cWalk, s_cLc, s_lcOne, s_cTrue, s_sApp, s_gN, s_gT, s_gsNil, s_gsCons, s_cV0, s_cVs, s_finR, s_finN, s_boolD, s_truB, s_setAll0, s_setAll1, s_op1, s_op2, s_abs, s_addI, s_subI, eqI, neI, ltI, gtI, leI, geI, mkTup1, mkTup2, mkTup3, idx_t0, idx_t1, idx_t2, obS, omS, List.set_cons_zero, List.set_cons_succ, s_cNone, s_cPart, s_intD, s_cRng1, s_walkL, s_walkT, s_lenT, s_lenL, s_lenS, s_slT, s_slL, if_true, if_false, decide_true, decide_false, Bool.not_true, Bool.not_false, Bool.and_true, Bool.and_false, Bool.true_and, Bool.false_and, Bool.false_eq_true, decide_eq_true_eq, b__law_lowest, idx_w0, idx_w1, b, g1, g2]
  rfl
end L
end
section
open PySem PySem.Spec PyProof.Rows L2 RE
namespace RE
/-- a point by whole numbers over one common denominator, all of at most k bits -/
def Pk (k : Nat) (x y : Rat) : Prop := ∃ X Y D : Int, D ≠ 0 ∧ D.natAbs < 2 ^ k ∧ X.natAbs < 2 ^ k ∧ Y.natAbs < 2 ^ k ∧ x = Rat.divInt X D ∧ y = Rat.divInt Y D
theorem Pk.le {k l : Nat} (h : k ≤ l) {x y : Rat} (g : Pk k x y) : Pk l x y := by
  obtain ⟨X, Y, D, h0, h1, h2, h3, h4, h5⟩ := g
  exact ⟨X, Y, D, h0, sz_le h h1, sz_le h h2, sz_le h h3, h4, h5⟩
theorem Pk.sz {k : Nat} {x y : Rat} (g : Pk k x y) : Sz k x ∧ Sz k y := by
  obtain ⟨X, Y, D, h0, h1, h2, h3, rfl, rfl⟩ := g
  exact ⟨divInt_sz h0 h2 h1, divInt_sz h0 h3 h1⟩
theorem div_one_int (x : Int) : (x : Rat) = Rat.divInt x 1 := by
  rw [Rat.divInt_eq_div, show ((1 : Int) : Rat) = 1 from rfl]
  generalize (x : Rat) = y
  grind
theorem Pk.int {k : Nat} (hk : 0 < k) {x y : Int} (h1 : x.natAbs < 2 ^ k) (h2 : y.natAbs < 2 ^ k) : Pk k (x : Rat) (y : Rat) := by
  refine ⟨x, y, 1, by decide, ?_, h1, h2, div_one_int x, div_one_int y⟩
  exact Nat.lt_of_lt_of_le (show (1 : Int).natAbs < 2 ^ 1 by decide) (Nat.pow_le_pow_right (by decide) hk)
theorem cast_ne {D : Int} (h : D ≠ 0) : (D : Rat) ≠ 0 := fun z => h (Rat.intCast_eq_zero_iff.mp z)
theorem alg_sub (x d x' d' : Rat) (h : d ≠ 0) (h' : d' ≠ 0) : x' / d' - x / d = (x' * d - x * d') / (d * d') := by grind
theorem alg_jf (x y d x' y' d' u1 u2 : Rat) (h : d ≠ 0) (h' : d' ≠ 0) : (x' / d' - x / d) * u2 - (y' / d' - y / d) * u1 = ((x' * d - x * d') * u2 - (y' * d - y * d') * u1) / (d * d') := by grind
theorem alg_st (n e c : Rat) : n / e / c = n / (e * c) := by grind
theorem alg_co (z d d' c n t : Rat) (h : d ≠ 0) (h' : d' ≠ 0) (hc : c ≠ 0) : z / d + n / (d * d' * c) * t = (z * d' * c + n * t) / (d * d' * c) := by grind
/-- all sizes on the way to where two lines meet -/
structure Tight (k m l : Nat) (a b c d : Rat) (w v : Int × Int) : Prop where
  s1 : Sz (k + m + 1) (c - a)
  s2 : Sz (k + m + 1) (d - b)
  f1 : Sz (k + m + l + 2) (jF a b c d v)
  f2 : Sz (k + m + l + 2) (jF a b c d w)
  st : Sz (k + m + 3 * l + 3) (jF a b c d v / (crs w v : Rat))
  p : Pk (k + m + 2 * l + 3) (a + jF a b c d v / (crs w v : Rat) * w.1) (b + jF a b c d v / (crs w v : Rat) * w.2)
theorem tight_of {k m l : Nat} {a b c d : Rat} {w v : Int × Int} (hA : Pk k a b) (hB : Pk m c d) (w1 : w.1.natAbs < 2 ^ l) (w2 : w.2.natAbs < 2 ^ l) (v1 : v.1.natAbs < 2 ^ l) (v2 : v.2.natAbs < 2 ^ l) (hc : crs w v ≠ 0) : Tight k m l a b c d w v := by
  obtain ⟨X, Y, D, h0, h1, h2, h3, rfl, rfl⟩ := hA
  obtain ⟨X', Y', D', g0, g1, g2, g3, rfl, rfl⟩ := hB
  have cz := crs_sz w1 w2 v1 v2
  have E0 : D * D' ≠ 0 := Int.mul_ne_zero h0 g0
  have Ez : (D * D').natAbs < 2 ^ (k + m) := mul_sz h1 g1
  have comm : ∀ {x y : Int} {i j : Nat}, x.natAbs < 2 ^ i → y.natAbs < 2 ^ j → (x * y).natAbs < 2 ^ (j + i) := fun hx hy => by rw [Nat.add_comm]; exact mul_sz hx hy
  have Uz : (X' * D - X * D').natAbs < 2 ^ (k + m + 1) := sub_sz (comm g2 h1) (mul_sz h2 g1)
  have Vz : (Y' * D - Y * D').natAbs < 2 ^ (k + m + 1) := sub_sz (comm g3 h1) (mul_sz h3 g1)
  have hD := cast_ne h0
  have hD' := cast_ne g0
  have hC := cast_ne hc
  have j : ∀ u : Int × Int, u.1.natAbs < 2 ^ l → u.2.natAbs < 2 ^ l → ((X' * D - X * D') * u.2 - (Y' * D - Y * D') * u.1).natAbs < 2 ^ (k + m + l + 2) := fun u u1 u2 => by
    have := sub_sz (mul_sz Uz u2) (mul_sz Vz u1)
    exact sz_le (by omega) this
  have jf : ∀ u : Int × Int, jF (Rat.divInt X D) (Rat.divInt Y D) (Rat.divInt X' D') (Rat.divInt Y' D') u = Rat.divInt ((X' * D - X * D') * u.2 - (Y' * D - Y * D') * u.1) (D * D') := fun u => by
    unfold jF
    simp only [Rat.divInt_eq_div, Rat.intCast_mul, Rat.intCast_sub]
    exact alg_jf _ _ _ _ _ _ _ _ hD hD'
  have EC0 : D * D' * crs w v ≠ 0 := Int.mul_ne_zero E0 hc
  have ECz : (D * D' * crs w v).natAbs < 2 ^ (k + m + 2 * l + 1) := sz_le (by omega) (mul_sz Ez cz)
  have st : jF (Rat.divInt X D) (Rat.divInt Y D) (Rat.divInt X' D') (Rat.divInt Y' D') v / (crs w v : Rat) = Rat.divInt ((X' * D - X * D') * v.2 - (Y' * D - Y * D') * v.1) (D * D' * crs w v) := by
    rw [jf v, Rat.divInt_eq_div, Rat.divInt_eq_div, Rat.intCast_mul (D * D')]
    exact alg_st _ _ _
  have coord : ∀ (Z t : Int), Z.natAbs < 2 ^ k → t.natAbs < 2 ^ l → (Z * D' * crs w v + ((X' * D - X * D') * v.2 - (Y' * D - Y * D') * v.1) * t).natAbs < 2 ^ (k + m + 2 * l + 3) ∧
      Rat.divInt Z D + jF (Rat.divInt X D) (Rat.divInt Y D) (Rat.divInt X' D') (Rat.divInt Y' D') v / (crs w v : Rat) * t = Rat.divInt (Z * D' * crs w v + ((X' * D - X * D') * v.2 - (Y' * D - Y * D') * v.1) * t) (D * D' * crs w v) := fun Z t hZ ht => by
    constructor
    · have e1 : (Z * D' * crs w v).natAbs < 2 ^ (k + m + 2 * l + 2) := sz_le (by omega) (mul_sz (mul_sz hZ g1) cz)
      have e2 := mul_sz (j v v1 v2) ht
      exact add_sz e1 (sz_le (by omega) e2)
    · rw [st]
      generalize (X' * D - X * D') * v.2 - (Y' * D - Y * D') * v.1 = N
      simp only [Rat.divInt_eq_div, Rat.intCast_mul, Rat.intCast_add]
      exact alg_co _ _ _ _ _ _ hD hD' hC
  refine ⟨?_, ?_, ?_, ?_, ?_, ?_⟩
  · have e : Rat.divInt X' D' - Rat.divInt X D = Rat.divInt (X' * D - X * D') (D * D') := by
      simp only [Rat.divInt_eq_div, Rat.intCast_mul, Rat.intCast_sub]
      exact alg_sub _ _ _ _ hD hD'
    rw [e]
    exact divInt_sz E0 Uz (sz_le (by omega) Ez)
  · have e : Rat.divInt Y' D' - Rat.divInt Y D = Rat.divInt (Y' * D - Y * D') (D * D') := by
      simp only [Rat.divInt_eq_div, Rat.intCast_mul, Rat.intCast_sub]
      exact alg_sub _ _ _ _ hD hD'
    rw [e]
    exact divInt_sz E0 Vz (sz_le (by omega) Ez)
  · rw [jf v]
    exact divInt_sz E0 (j v v1 v2) (sz_le (by omega) Ez)
  · rw [jf w]
    exact divInt_sz E0 (j w w1 w2) (sz_le (by omega) Ez)
  · rw [st]
    exact divInt_sz EC0 (sz_le (by omega) (j v v1 v2)) (sz_le (by omega) ECz)
  · exact ⟨_, _, _, EC0, sz_le (by omega) ECz, (coord X w.1 h2 w1).1, (coord Y w.2 h3 w2).1, (coord X w.1 h2 w1).2, (coord Y w.2 h3 w2).2⟩
end RE
namespace L
theorem meet_ev (n : Nat) {a b c d : Rat} {w v : Int × Int} {k m l : Nat} (hw : Prim w) (hv : Prim v) (hA : Pk k a b) (hB : Pk m c d) (w1 : w.1.natAbs < 2 ^ l) (w2 : w.2.natAbs < 2 ^ l) (v1 : v.1.natAbs < 2 ^ l) (v2 : v.2.natAbs < 2 ^ l) (hl : 0 < l) (hl9 : l ≤ 9) (hk : k + m + 2 * l + 3 ≤ 2240) :
    lvl (DT rows) (n + 6) "meet" [pt a b, wy w, pt c d, wy v] = some (optD (jointR a b w c d v)) := by
  rw [v_meet]
  have m1 := mul_ev (wim_of w1 (by omega)) (wim_of v2 (by omega))
  have m2 := mul_ev (wim_of w2 (by omega)) (wim_of v1 (by omega))
  have hcs : w.1 * v.2 - w.2 * v.1 = crs w v := rfl
  have cz := crs_sz w1 w2 v1 v2
  by_cases hc0 : crs w v = 0
  · simp [b_meet, m1, m2, hcs, hc0, jointR, optD]
  · have T := tight_of hA hB w1 w2 v1 v2 hc0
    have hA' : Pk (k + m) a b := hA.le (by omega)
    have hB' : Pk (k + m) c d := hB.le (by omega)
    obtain ⟨ha, hb⟩ := hA'.sz
    obtain ⟨hc, hd⟩ := hB'.sz
    have f1 := minus_ev (n + 2) hc ha (by omega)
    have f2 := minus_ev (n + 2) hd hb (by omega)
    have u1 := times_ev (n + 2) T.s1 (int_Sz v2 hl) (by omega)
    have u2 := times_ev (n + 2) T.s2 (int_Sz v1 hl) (by omega)
    have u3 := minus_ev (n + 2) (mul_Sz T.s1 (int_Sz v2 hl)) (mul_Sz T.s2 (int_Sz v1 hl)) (by omega)
    have j1 : (c - a) * v.2 - (d - b) * v.1 = jF a b c d v := rfl
    rw [j1] at u3
    have t1 := T.f1
    have n3 := mul_ev (wim_den t1 (by omega)) (wim_of cz (by omega))
    have dz := mul_sz (i := (jF a b c d v).den) (by rw [den_na]; exact t1.2) cz
    have f5 := frac_ev (n + 3) (jF a b c d v).num ((jF a b c d v).den * crs w v) (den_mul_ne _ hc0) (by omega) dz
    rw [frac_div _ hc0] at f5
    have t3 := T.st
    have f6 := times_ev (n + 2) t3 (int_Sz w1 hl) (by omega)
    have f7 := times_ev (n + 2) t3 (int_Sz w2 hl) (by omega)
    have t4 := mul_Sz t3 (int_Sz w1 hl)
    have t5 := mul_Sz t3 (int_Sz w2 hl)
    have f8 := plus_ev (n + 2) (ha.le (by omega)) t4 (by omega)
    have f9 := plus_ev (n + 2) (hb.le (by omega)) t5 (by omega)
    obtain ⟨t6, t7⟩ := T.p.sz
    have o1 := is_on_ev n hw (ha.le (l := k + m + 2 * l + 3) (by omega)) (hb.le (by omega)) t6 t7 (by omega)
    have o2 := is_on_ev n hv (hc.le (l := k + m + 2 * l + 3) (by omega)) (hd.le (by omega)) t6 t7 (by omega)
    obtain ⟨x1, x2⟩ := meet_on (a := a) (b := b) (c := c) (d := d) hw hv hc0
    simp only [x1] at o1
    simp only [x2] at o2
    by_cases q1 : 0 < jF a b c d v * (crs w v : Rat)
    · by_cases q2 : 0 < jF a b c d w * (crs w v : Rat)
      · simp [b_meet, m1, m2, hcs, hc0, f1, f2, u1, u2, u3, n3, f5, rt_int, f6, f7, f8, f9, pt_eq, o1, o2, q1, q2, jointR, optD]
      · simp [b_meet, m1, m2, hcs, hc0, f1, f2, u1, u2, u3, n3, f5, rt_int, f6, f7, f8, f9, pt_eq, o1, o2, q1, q2, jointR, optD]
    · simp [b_meet, m1, m2, hcs, hc0, f1, f2, u1, u2, u3, n3, f5, rt_int, f6, f7, f8, f9, pt_eq, o1, o2, q1, jointR, optD]
end L
namespace RE
def ngw (w : Int × Int) : Int × Int := (0 - w.1, 0 - w.2)
theorem Prim.ng {w : Int × Int} (h : Prim w) : Prim (ngw w) := by
  unfold Prim ngw at *
  simpa using h
/-- the point, where there is one, is not much longer -/
theorem jointR_Pk {k m l : Nat} {a b c d : Rat} {w v : Int × Int} (hA : Pk k a b) (hB : Pk m c d) (w1 : w.1.natAbs < 2 ^ l) (w2 : w.2.natAbs < 2 ^ l) (v1 : v.1.natAbs < 2 ^ l) (v2 : v.2.natAbs < 2 ^ l) {p : Rat × Rat} (h : jointR a b w c d v = some p) : Pk (k + m + 2 * l + 3) p.1 p.2 := by
  unfold jointR at h
  split at h
  · cases h
  · rename_i hc0
    split at h
    · cases h
      exact (tight_of hA hB w1 w2 v1 v2 hc0).p
    · cases h
end RE
namespace L
theorem contrary_ev (n : Nat) (w : Int × Int) : lvl (DT rows) (n + 1) "contrary" [wy w] = some (wy (ngw w)) := by
  rw [v_contrary]
  simp only [b_contrary, s_sSeq, s_sRet, s_cTup, s_cCons, s_cB, s_cC, s_cIx, s_cV0, s_cNil, obS, idx_w0, idx_w1, s_subI, mkTup2, omS, s_finR, wy_eq]
  rfl
theorem stand_ev (n : Nat) {a b c d : Rat} {w v : Int × Int} {k m l : Nat} (hw : Prim w) (hv : Prim v) (hA : Pk k a b) (hB : Pk m c d) (w1 : w.1.natAbs < 2 ^ l) (w2 : w.2.natAbs < 2 ^ l) (v1 : v.1.natAbs < 2 ^ l) (v2 : v.2.natAbs < 2 ^ l) (hl : 0 < l) (hl9 : l ≤ 9) (hk : k + m + 2 * l + 3 ≤ 2240) :
    lvl (DT rows) (n + 7) "stand" [pt a b, wy w, pt c d, wy v] = some (optD (jointR a b (ngw w) c d (ngw v))) := by
  rw [v_stand]
  have f1 := contrary_ev (n + 5) w
  have f2 := contrary_ev (n + 5) v
  have f3 := meet_ev n hw.ng hv.ng hA hB (w := ngw w) (v := ngw v) (by unfold ngw; simpa using w1) (by unfold ngw; simpa using w2) (by unfold ngw; simpa using v1) (by unfold ngw; simpa using v2) hl hl9 hk
  simp [b_stand, f1, f2, f3]
theorem joint_ev (n : Nat) {a b c d : Rat} {w v : Int × Int} {k m l : Nat} (hA : Pk k a b) (hB : Pk m c d) (w1 : w.1.natAbs < 2 ^ l) (w2 : w.2.natAbs < 2 ^ l) (v1 : v.1.natAbs < 2 ^ l) (v2 : v.2.natAbs < 2 ^ l) (hl : 0 < l) (hl9 : l ≤ 9) (hk : k + m ≤ 4000) :
    lvl (DT rows) (n + 5) "_law_joint" [pt a b, wy w, pt c d, wy v] = some (optD (jointR a b w c d v)) := by
  rw [v__law_joint]
  have m1 := mul_ev (wim_of w1 (by omega)) (wim_of v2 (by omega))
  have m2 := mul_ev (wim_of w2 (by omega)) (wim_of v1 (by omega))
  have hcs : w.1 * v.2 - w.2 * v.1 = crs w v := rfl
  have cz := crs_sz w1 w2 v1 v2
  by_cases hc0 : crs w v = 0
  · simp [b__law_joint, m1, m2, hcs, hc0, jointR, optD]
  · have T := tight_of hA hB w1 w2 v1 v2 hc0
    have hA' : Pk (k + m) a b := hA.le (by omega)
    have hB' : Pk (k + m) c d := hB.le (by omega)
    obtain ⟨ha, hb⟩ := hA'.sz
    obtain ⟨hc, hd⟩ := hB'.sz
    have f1 := less_ev (n + 1) hc ha (by omega)
    have f2 := less_ev (n + 1) hd hb (by omega)
    have f3 := cross_ev n T.s1 T.s2 v1 v2 hl (by omega)
    have f4 := cross_ev n T.s1 T.s2 w1 w2 hl (by omega)
    have t1 := T.f1
    have t2 := T.f2
    have j1 : (c - a) * v.2 - (d - b) * v.1 = jF a b c d v := rfl
    have j2 : (c - a) * w.2 - (d - b) * w.1 = jF a b c d w := rfl
    rw [j1] at f3
    rw [j2] at f4
    have n1 := mul_ev (wim_num t1 (by omega)) (wim_of cz (by omega))
    have n2 := mul_ev (wim_num t2 (by omega)) (wim_of cz (by omega))
    have n3 := mul_ev (wim_den t1 (by omega)) (wim_of cz (by omega))
    have dz := mul_sz (i := (jF a b c d v).den) (by rw [den_na]; exact t1.2) cz
    have f5 := ratio_ev (n + 2) (jF a b c d v).num ((jF a b c d v).den * crs w v) (den_mul_ne _ hc0) (by omega) dz
    rw [frac_div _ hc0] at f5
    have t3 := T.st
    have f6 := prod_ev (n + 1) t3 (int_Sz w1 hl) (by omega)
    have f7 := prod_ev (n + 1) t3 (int_Sz w2 hl) (by omega)
    have t4 := mul_Sz t3 (int_Sz w1 hl)
    have t5 := mul_Sz t3 (int_Sz w2 hl)
    have f8 := sum_ev (n + 1) (ha.le (by omega)) t4 (by omega)
    have f9 := sum_ev (n + 1) (hb.le (by omega)) t5 (by omega)
    have p1 := num_mul_pos (jF a b c d v) (crs w v)
    have p2 := num_mul_pos (jF a b c d w) (crs w v)
    by_cases q1 : 0 < jF a b c d v * (crs w v : Rat)
    · by_cases q2 : 0 < jF a b c d w * (crs w v : Rat)
      · have r1 : ¬ (jF a b c d v).num * crs w v ≤ 0 := fun z => (p1.mp z) q1
        have r2 : ¬ (jF a b c d w).num * crs w v ≤ 0 := fun z => (p2.mp z) q2
        simp [b__law_joint, m1, m2, hcs, hc0, f1, f2, f3, f4, pt_eq, n1, n2, n3, r1, r2, f5, rt_int, f6, f7, f8, f9, jointR, optD, q1, q2]
      · have r1 : ¬ (jF a b c d v).num * crs w v ≤ 0 := fun z => (p1.mp z) q1
        have r2 : (jF a b c d w).num * crs w v ≤ 0 := p2.mpr q2
        simp [b__law_joint, m1, m2, hcs, hc0, f1, f2, f3, f4, pt_eq, n1, n2, n3, r1, r2, jointR, optD, q2]
    · have r1 : (jF a b c d v).num * crs w v ≤ 0 := p1.mpr q1
      simp [b__law_joint, m1, m2, hcs, hc0, f1, f2, f3, f4, pt_eq, n1, n2, n3, r1, jointR, optD, q1]
end L
end
section
open PySem PySem.Spec PyProof.Rows L2 RE
namespace RE
open KS
/-! texts in order -/
def ltT (a b : Str) : Prop := a.cps.toList < b.cps.toList
theorem ltT_irr (a : Str) : ¬ ltT a a := List.lt_irrefl _
theorem ltT_nodup {l : List Str} (h : l.Pairwise ltT) : l.Nodup := by
  unfold List.Nodup
  refine h.imp fun {a b} z => ?_
  intro e
  subst e
  exact ltT_irr a z
theorem ltT_uniq {l m : List Str} (hl : l.Pairwise ltT) (hm : m.Pairwise ltT) (h : ∀ x, x ∈ l ↔ x ∈ m) : l = m := by
  have p : l.Perm m := (List.perm_ext_iff_of_nodup (ltT_nodup hl) (ltT_nodup hm)).mpr h
  refine List.Perm.eq_of_pairwise (le := ltT) (fun a b _ _ h1 h2 => ?_) hl hm p
  exact absurd (List.lt_trans h1 h2) (List.lt_irrefl _)
def strK : Key → Str
  | .inr x => x
  | .inl _ => ⟨#[]⟩
/-- some texts, rising, each once -/
noncomputable def srt (ss : List Str) : List Str := (ordK (ss.map Sum.inr)).map strK
theorem str_ext {x y : Str} (e : x.cps.toList = y.cps.toList) : x = y := by
  cases x
  cases y
  exact congrArg Str.mk (Array.toList_inj.mp e)
theorem srt_spec (ss : List Str) : (srt ss).Pairwise ltT ∧ (∀ m, m ∈ srt ss ↔ m ∈ ss) ∧ (srt ss).length ≤ ss.length ∧ (ordK (ss.map Sum.inr)).map keyD = (srt ss).map .str := by
  have mem : ∀ k, k ∈ ordK (ss.map Sum.inr) ↔ k ∈ ss.map Sum.inr := fun k => by
    unfold ordK
    rw [List.mem_mergeSort, nub_mem]
  have nubl : ∀ ks : List Key, (nubK ks).length ≤ ks.length := by
    intro ks
    induction ks with
    | nil => exact Nat.le_refl _
    | cons k ks ih =>
      unfold nubK
      split
      · rw [List.length_cons]; omega
      · rw [List.length_cons, List.length_cons]; omega
  have len : (ordK (ss.map Sum.inr)).length ≤ ss.length := by
    have := nubl (ss.map Sum.inr)
    unfold ordK
    rw [List.length_mergeSort]
    rwa [List.length_map] at this
  have nd : (ordK (ss.map Sum.inr)).Nodup := by
    unfold ordK
    exact (List.mergeSort_perm _ _).nodup_iff.mpr (nub_nodup _)
  have pw : (ordK (ss.map Sum.inr)).Pairwise fun a b => leK a b = true := by
    unfold ordK
    exact List.pairwise_mergeSort leK_tot.trans (fun a b => by rw [Bool.or_eq_true]; exact leK_tot.total a b) _
  unfold srt
  generalize ordK (ss.map Sum.inr) = os at *
  have back : ∀ k ∈ os, ∃ i : Str, i ∈ ss ∧ k = .inr i := fun k h => by
    obtain ⟨i, hi, rfl⟩ := List.mem_map.mp ((mem k).mp h)
    exact ⟨i, hi, rfl⟩
  refine ⟨?_, fun m => ⟨fun h => ?_, fun h => ?_⟩, by rw [List.length_map]; exact len, ?_⟩
  · rw [List.pairwise_map]
    have := List.pairwise_and_iff.mpr ⟨pw, nd⟩
    refine this.imp_of_mem fun {a b} ha hb h => ?_
    obtain ⟨i, _, rfl⟩ := back a ha
    obtain ⟨j, _, rfl⟩ := back b hb
    obtain ⟨h1, h2⟩ := h
    rw [leK_str, decide_eq_true_eq] at h1
    have ne : i ≠ j := fun z => h2 (by rw [z])
    show i.cps.toList < j.cps.toList
    refine Classical.byContradiction fun q => ne (str_ext (List.le_antisymm h1 (List.not_lt.mp q)))
  · obtain ⟨k, hk, rfl⟩ := List.mem_map.mp h
    obtain ⟨i, hi, rfl⟩ := back k hk
    exact hi
  · exact List.mem_map.mpr ⟨.inr m, (mem _).mpr (List.mem_map.mpr ⟨m, h, rfl⟩), rfl⟩
  · rw [List.map_map]
    refine List.map_congr_left fun k h => ?_
    obtain ⟨i, _, rfl⟩ := back k h
    rfl
theorem keysA_strs (ss : List Str) : keysA (ss.map .str) = some (ss.map Sum.inr) := by
  have := keysA_map (ss.map Sum.inr)
  rwa [List.map_map] at this
theorem setSort_strs {ss : List Str} (hl : ss.length ≤ 900) : setSortL (ss.map .str) = some (.lst ((srt ss).map .str)) := by
  unfold setSortL
  rw [keysA_strs, obS]
  have : oneKd (ss.map Sum.inr) = true := by
    unfold oneKd
    rw [Bool.or_eq_true, List.all_eq_true, List.all_eq_true]
    right
    intro k h
    obtain ⟨i, _, rfl⟩ := List.mem_map.mp h
    rfl
  rw [this, List.length_map, decide_eq_true hl]
  rw [if_pos (by rfl), (srt_spec ss).2.2.2]
theorem srt_perm {ss : List Str} (nd : ss.Nodup) : (srt ss).Perm ss := (List.perm_ext_iff_of_nodup (ltT_nodup (srt_spec ss).1) nd).mpr (srt_spec ss).2.1
theorem sortL_strs {ss : List Str} (nd : ss.Nodup) : sortL (ss.map .str) = (srt ss).map .str := by
  refine (sortedS_L (srt_perm nd) (sortedS_of_pairwise _ ((srt_spec ss).1.imp fun {a b} h => ?_))).symm
  rw [ltCps_eq, decide_eq_false_iff_not]
  exact fun z => absurd (List.lt_trans h z) (List.lt_irrefl _)
theorem srt_congr {a b : List Str} (h : ∀ x, x ∈ a ↔ x ∈ b) : srt a = srt b := ltT_uniq (srt_spec a).1 (srt_spec b).1 fun x => by rw [(srt_spec a).2.1, (srt_spec b).2.1, h]
/-! dicts by names -/
def asD {α : Type} (f : α → D) (L : List (Str × α)) : D := .dic false (L.map fun z => (.str z.1, f z.2))
def getA {α : Type} (L : List (Str × α)) (n : Str) : Option α := (L.find? fun z => decide (z.1 = n)).map (·.2)
theorem getA_cons {α : Type} (z : Str × α) (L : List (Str × α)) (n : Str) : getA (z :: L) n = if z.1 = n then some z.2 else getA L n := by
  unfold getA
  rw [List.find?_cons]
  by_cases h : z.1 = n
  · simp [h]
  · simp [h]
theorem getA_app {α : Type} (L M : List (Str × α)) (n : Str) : getA (L ++ M) n = (getA L n).or (getA M n) := by
  induction L with
  | nil => simp [getA]
  | cons z L ih =>
    rw [List.cons_append, getA_cons, getA_cons]
    split
    · rfl
    · exact ih
theorem getA_none {α : Type} {L : List (Str × α)} {n : Str} : getA L n = none ↔ n ∉ L.map (·.1) := by
  induction L with
  | nil => simp [getA]
  | cons z L ih =>
    rw [getA_cons, List.map_cons, List.mem_cons]
    by_cases h : z.1 = n
    · rw [if_pos h]
      exact ⟨fun z => (nomatch z), fun q => absurd (.inl h.symm) q⟩
    · rw [if_neg h, ih]
      exact ⟨fun q z => z.elim (fun e => h e.symm) q, fun q z => q (.inr z)⟩
theorem getA_mem {α : Type} {L : List (Str × α)} {n : Str} {a : α} (h : getA L n = some a) : (n, a) ∈ L := by
  unfold getA at h
  obtain ⟨z, h1, rfl⟩ := Option.map_eq_some_iff.mp h
  have h2 := List.find?_some h1
  have : z.1 = n := of_decide_eq_true h2
  rw [← this]
  exact List.mem_of_find?_eq_some h1
theorem getA_of {α : Type} {L : List (Str × α)} (nd : (L.map (·.1)).Nodup) {n : Str} {a : α} (h : (n, a) ∈ L) : getA L n = some a := by
  induction L with
  | nil => cases h
  | cons z L ih =>
    rw [List.map_cons, List.nodup_cons] at nd
    rw [getA_cons]
    rcases List.mem_cons.mp h with rfl | h
    · rw [if_pos rfl]
    · rw [if_neg fun e => nd.1 (List.mem_map.mpr ⟨(n, a), h, e.symm⟩)]
      exact ih nd.2 h
theorem keyA_str (s : Str) : keyA (.str s) = some (.inr s) := rfl
theorem dget_as {α : Type} (f : α → D) (L : List (Str × α)) (n : Str) : dget false (L.map fun z => (D.str z.1, f z.2)) (.str n) = some ((getA L n).map f) := by
  unfold dget getA
  simp only [keyA_str, Option.map_some]
  congr 1
  rw [List.find?_map, Option.map_map, Option.map_map]
  have e : ((fun p : D × D => decide (keyA p.1 = some (Sum.inr n))) ∘ fun z : Str × α => (D.str z.1, f z.2)) = fun z => decide (z.1 = n) := by
    funext z
    simp [keyA_str]
  rw [e]
  rfl
theorem in_as {α : Type} (f : α → D) (L : List (Str × α)) (n : Str) : inD (.str n) (asD f L) = some (.bl (getA L n).isSome) := by
  have : inB (.str n) (asD f L) = (dget false (L.map fun z => (D.str z.1, f z.2)) (.str n)).map fun o => o.isSome := rfl
  unfold inD
  rw [this, dget_as]
  cases getA L n <;> rfl
theorem notin_as {α : Type} (f : α → D) (L : List (Str × α)) (n : Str) : notInD (.str n) (asD f L) = some (.bl (!(getA L n).isSome)) := by
  have : inB (.str n) (asD f L) = (dget false (L.map fun z => (D.str z.1, f z.2)) (.str n)).map fun o => o.isSome := rfl
  unfold notInD
  rw [this, dget_as]
  cases getA L n <;> rfl
theorem idx_as {α : Type} (f : α → D) {L : List (Str × α)} {n : Str} {a : α} (h : getA L n = some a) : idxD (asD f L) (.str n) = some (f a) := by
  have : idxD (asD f L) (.str n) = (dget false (L.map fun z => (D.str z.1, f z.2)) (.str n)).bind id := rfl
  rw [this, dget_as, h]
  rfl
theorem put_as {α : Type} (f : α → D) {L : List (Str × α)} {n : Str} (h : getA L n = none) (hl : L.length ≤ 100000) (a : α) : putD (asD f L) (.str n) (f a) = some (asD f (L ++ [(n, a)])) := by
  have e : putD (asD f L) (.str n) (f a) = if fits ((L.map fun z => (D.str z.1, f z.2)).length + 1) then (dput false (L.map fun z => (D.str z.1, f z.2)) (.str n) (f a)).map fun q => .dic false q else none := rfl
  have hf : fits ((L.map fun z => (D.str z.1, f z.2)).length + 1) = true := by
    rw [List.length_map]
    unfold fits
    exact decide_eq_true (by rw [sizeLine_eq]; omega)
  rw [e, hf, if_pos rfl]
  unfold dput
  simp only [keyA_str, Option.map_some]
  have : ((L.map fun z => (D.str z.1, f z.2)).any fun p => decide (keyA p.1 = some (Sum.inr n))) = false := by
    rw [List.any_map, List.any_eq_false]
    intro z hz
    have hn := getA_none.mp h
    have : z.1 ≠ n := fun e => hn (List.mem_map.mpr ⟨z, hz, e⟩)
    simp [keyA_str, this]
  rw [this, if_neg (by simp)]
  unfold asD
  rw [List.map_append]
  rfl
theorem merge_as {α : Type} (f : α → D) : ∀ {M L : List (Str × α)}, ((L ++ M).map (·.1)).Nodup → mergeD (L.map fun z => (D.str z.1, f z.2)) (M.map fun z => (D.str z.1, f z.2)) = some ((L ++ M).map fun z => (D.str z.1, f z.2))
  | [], L, _ => by rw [List.append_nil]; rfl
  | z :: M, L, nd => by
    rw [List.map_cons, mergeD]
    have hn : getA L z.1 = none := getA_none.mpr fun hm => by
      rw [List.map_append, List.map_cons] at nd
      exact (List.nodup_append.mp nd).2.2 _ hm _ List.mem_cons_self rfl
    have e : dput false (L.map fun z => (D.str z.1, f z.2)) (.str z.1) (f z.2) = some ((L ++ [z]).map fun z => (D.str z.1, f z.2)) := by
      unfold dput
      simp only [keyA_str, Option.map_some]
      have : ((L.map fun z => (D.str z.1, f z.2)).any fun p => decide (keyA p.1 = some (Sum.inr z.1))) = false := by
        rw [List.any_map, List.any_eq_false]
        intro y hy
        have hn := getA_none.mp hn
        have : y.1 ≠ z.1 := fun e => hn (List.mem_map.mpr ⟨y, hy, e⟩)
        simp [keyA_str, this]
      rw [this, if_neg (by simp), List.map_append]
      rfl
    rw [e, obS]
    have := merge_as f (M := M) (L := L ++ [z]) (by rw [List.append_assoc]; exact nd)
    rw [this, List.append_assoc]
    rfl
theorem upd_as {α : Type} (f : α → D) {M L : List (Str × α)} (nd : ((L ++ M).map (·.1)).Nodup) (hl : (L ++ M).length ≤ 100000) : updD (asD f L) (asD f M) = some (asD f (L ++ M)) := by
  have e : updD (asD f L) (asD f M) = if fits ((L.map fun z => (D.str z.1, f z.2)).length + (M.map fun z => (D.str z.1, f z.2)).length) then (mergeD (L.map fun z => (D.str z.1, f z.2)) (M.map fun z => (D.str z.1, f z.2))).map (.dic false) else none := rfl
  rw [e, fits_of (by rw [List.length_map, List.length_map]; rw [List.length_append] at hl; omega), if_pos rfl, merge_as f nd]
  rfl
theorem sort_as {α : Type} (f : α → D) {L : List (Str × α)} (nd : (L.map (·.1)).Nodup) (hl : L.length < 64) : sortedD (asD f L) = some (.lst ((srt (L.map (·.1))).map .str)) := by
  have e : sortedD (asD f L) = if ((L.map fun z => (D.str z.1, f z.2)).map (·.1)).all isStr1 && decide ((L.map fun z => (D.str z.1, f z.2)).length < 64) then some (.lst (sortL ((L.map fun z => (D.str z.1, f z.2)).map (·.1)))) else none := rfl
  have e2 : (L.map fun z => (D.str z.1, f z.2)).map (·.1) = (L.map (·.1)).map D.str := by rw [List.map_map, List.map_map]; rfl
  rw [e, e2, sortL_strs nd, if_pos]
  rw [Bool.and_eq_true, List.all_eq_true]
  refine ⟨fun x hx => ?_, decide_eq_true (by rw [List.length_map]; exact hl)⟩
  obtain ⟨s, _, rfl⟩ := List.mem_map.mp hx
  rfl
theorem ne_as {α : Type} (f : α → D) (L : List (Str × α)) : neD (asD f L) (.dic false []) = some (.bl (!L.isEmpty)) := by
  have p1 : pd2 (asD f L) (.dic false []) = false := rfl
  have e : neDic (asD f L) (.dic false []) = some (.bl (!(L.map fun z => (D.str z.1, f z.2)).isEmpty)) := rfl
  unfold neD
  rw [p1, if_neg (by simp), e]
  cases L <;> rfl
theorem keys_as {α : Type} (f : α → D) (L : List (Str × α)) (i : Nat) (F : Fn) (ρ : RE.Env) (h : ρ[i]? = some (some (asD f L))) : cKeys i F ρ = some ((L.map (·.1)).map .str) := by
  unfold cKeys
  rw [h]
  show some ((L.map fun z => (D.str z.1, f z.2)).map (·.1)) = _
  rw [List.map_map, List.map_map]
  rfl
theorem items_as {α : Type} (f : α → D) (L : List (Str × α)) (i : Nat) (F : Fn) (ρ : RE.Env) (h : ρ[i]? = some (some (asD f L))) : cItems i F ρ = some (L.map fun z => .tup [.str z.1, f z.2]) := by
  unfold cItems
  rw [h]
  show some ((L.map fun z => (D.str z.1, f z.2)).map fun kv => D.tup [kv.1, kv.2]) = _
  rw [List.map_map]
  rfl
/-- a dict made row by row -/
theorem dc_as {α β : Type} {one : D → Option (Option (D × D))} {g : β → D} {f : α → D} {h : β → Option (Str × α)} : ∀ {M : List β} {L : List (Str × α)}, (∀ b ∈ M, one (g b) = some ((h b).map fun z => (.str z.1, f z.2))) → ((L ++ M.filterMap h).map (·.1)).Nodup → (L ++ M.filterMap h).length ≤ 100000 → dcFold one (asD f L) (M.map g) = some (asD f (L ++ M.filterMap h))
  | [], L, _, _, _ => by rw [List.filterMap_nil, List.append_nil]; rfl
  | b :: M, L, ho, nd, hl => by
    rw [List.map_cons, dcFold, ho b List.mem_cons_self, obS]
    cases hb : h b with
    | none =>
      rw [List.filterMap_cons_none hb] at nd hl ⊢
      show (some (asD f L)).bind _ = _
      rw [obS]
      exact dc_as (fun c hc => ho c (List.mem_cons_of_mem _ hc)) nd hl
    | some z =>
      rw [List.filterMap_cons_some hb] at nd hl ⊢
      have hn : getA L z.1 = none := getA_none.mpr fun hm => by
        rw [List.map_append, List.map_cons] at nd
        exact (List.nodup_append.mp nd).2.2 _ hm _ List.mem_cons_self rfl
      have e : dcPut (asD f L) (Option.map (fun z => (D.str z.1, f z.2)) (some z)) = some (asD f (L ++ [z])) := by
        show putD (asD f L) (.str z.1) (f z.2) = _
        rw [List.length_append] at hl
        exact put_as f hn (by omega) z.2
      rw [e, obS]
      have := dc_as (M := M) (L := L ++ [z]) (fun c hc => ho c (List.mem_cons_of_mem _ hc)) (by rw [List.append_assoc]; exact nd) (by rw [List.append_assoc]; exact hl)
      rw [this, List.append_assoc]
      rfl
end RE
end
section
open PySem PySem.Spec PyProof.Rows L2 RE
namespace L
noncomputable def ftCC1 : SS := sSeq (sIf (cBT isntD (cV 8) (cC (.non))) (sSeq (sRet (cTup (cCons (cV 8) (cCons (cV 4) (cCons (cV 6) (cNil)))))) (sNil)) (sNil)) (sNil)
noncomputable def ftCC0 : SS := sSeq (sAsg (cFnP 2 ["meet", "stand", "_law_draws", "_law_joint"] (cCons (cIx (cIx (cV 1) (cV 4)) (cC (.int 0))) (cCons (cV 5) (cCons (cIx (cIx (cV 1) (cV 6)) (cC (.int 0))) (cCons (cV 7) (cNil)))))) (gN 8)) ftCC1
noncomputable def ftC0 : SS := sSeq (sFor (cWalk (cSl (cV 0) (cPart (cB addD (cV 3) (cC (.int 1)))) (cNone))) (gT (gsCons (gN 6) (gsCons (gN 7) (gsNil)))) ftCC0) (sNil)
noncomputable def ft1 : SS := sSeq (sRet (cC (.non))) (sNil)
noncomputable def ft0 : SS := sSeq (sFor (cEnum (cV 0)) (gT (gsCons (gN 3) (gsCons (gT (gsCons (gN 4) (gsCons (gN 5) (gsNil)))) (gsNil)))) ftC0) ft1
noncomputable def nfC1 : SS := sSeq (sPut 2 (cV 3) (cIf (cBT notInD (cV 3) (cV 1)) (cFn "first_two" (cCons (cV 4) (cCons (cV 1) (cCons (cC (.fn "meet")) (cNil))))) (cC (.non)))) (sNil)
noncomputable def nfC0 : SS := sSeq (sAsg (cLc [5, 6, 7] (cWalk (cV 0)) (gT (gsCons (gN 5) (gsCons (gN 6) (gsCons (gN 7) (gsNil))))) (cAndT (cBT eqD (cV 6) (cV 3)) (cBT inD (cV 5) (cV 1))) (cTup (cCons (cV 5) (cCons (cV 7) (cNil))))) (gN 4)) nfC1
noncomputable def nfD1 : SS := sSeq (sPut 2 (cV 5) (cIf (cBT notInD (cV 5) (cV 1)) (cFn "first_two" (cCons (cV 4) (cCons (cV 1) (cCons (cC (.fn "stand")) (cNil))))) (cC (.non)))) (sNil)
noncomputable def nfD0 : SS := sSeq (sAsg (cLc [6, 3, 7] (cWalk (cV 0)) (gT (gsCons (gN 6) (gsCons (gN 3) (gsCons (gN 7) (gsNil))))) (cAndT (cBT eqD (cV 6) (cV 5)) (cBT inD (cV 3) (cV 1))) (cTup (cCons (cV 3) (cCons (cV 7) (cNil))))) (gN 4)) nfD1
noncomputable def nf3 : SS := sSeq (sRet (cDc false [8, 9] (cItems 2) (gT (gsCons (gN 8) (gsCons (gN 9) (gsNil)))) (cBT isntD (cV 9) (cC (.non))) (cV 8) (cV 9))) (sNil)
noncomputable def nf2 : SS := sSeq (sFor (cWalk (cFn "lookers_of" (cCons (cV 0) (cNil)))) (gN 5) nfD0) nf3
noncomputable def nf1 : SS := sSeq (sFor (cWalk (cFn "marks_of" (cCons (cV 0) (cNil)))) (gN 3) nfC0) nf2
noncomputable def nf0 : SS := sSeq (sSetM 2 (cC (.dic false []))) nf1
noncomputable def afC2 : SS := sSeq (sAug 5 (cC (.int 1))) (sNil)
noncomputable def afC1 : SS := sSeq (sAsg (cFn "next_found" (cCons (cV 2) (cCons (cV 3) (cNil)))) (gN 4)) afC2
noncomputable def afC0 : SS := sSeq (sUpd 3 (cDc false [6, 8] (cItems 4) (gT (gsCons (gN 6) (gsCons (gN 8) (gsNil)))) (cTrue) (cV 6) (cTup (cCons (cIx (cV 8) (cC (.int 0))) (cCons (cV 5) (cCons (cSl (cV 8) (cPart (cC (.int 1))) (cNone)) (cNil))))))) afC1
noncomputable def af5 : SS := sSeq (sRet (cV 3)) (sNil)
noncomputable def af4 : SS := sSeq (sWhile (cBT neD (cV 4) (cC (.dic false []))) afC0) af5
noncomputable def af3 : SS := sSeq (sAsg (cC (.int 1)) (gN 5)) af4
noncomputable def af2 : SS := sSeq (sAsg (cFn "next_found" (cCons (cV 2) (cCons (cV 3) (cNil)))) (gN 4)) af3
noncomputable def af1 : SS := sSeq (sSetM 3 (cDc false [6, 7] (cWalk (cV 1)) (gT (gsCons (gN 6) (gsCons (gN 7) (gsNil)))) (cTrue) (cV 6) (cTup (cCons (cFn "whole" (cCons (cV 7) (cNil))) (cCons (cC (.int 0)) (cCons (cC (.non)) (cNil))))))) af2
noncomputable def af0 : SS := sSeq (sAsg (cV 0) (gT (gsCons (gN 1) (gsCons (gN 2) (gsNil))))) af1
noncomputable def twCC3 : SS := sSeq (sIf (cBT isntD (cV 10) (cC (.non))) (sSeq (sRet (cTup (cCons (cV 10) (cCons (cV 4) (cCons (cV 6) (cNil)))))) (sNil)) (sNil)) (sNil)
noncomputable def twCC2 : SS := sSeq (sAsg (cFn "_law_joint" (cCons (cIx (cIx (cV 1) (cV 4)) (cC (.int 0))) (cCons (cV 8) (cCons (cIx (cIx (cV 1) (cV 6)) (cC (.int 0))) (cCons (cV 9) (cNil)))))) (gN 10)) twCC3
noncomputable def twCC1 : SS := sSeq (sAsg (cIf (cTr (cV 2)) (cTup (cCons (cB subD (cC (.int 0)) (cIx (cV 7) (cC (.int 0)))) (cCons (cB subD (cC (.int 0)) (cIx (cV 7) (cC (.int 1)))) (cNil)))) (cV 7)) (gN 9)) twCC2
noncomputable def twCC0 : SS := sSeq (sAsg (cIf (cTr (cV 2)) (cTup (cCons (cB subD (cC (.int 0)) (cIx (cV 5) (cC (.int 0)))) (cCons (cB subD (cC (.int 0)) (cIx (cV 5) (cC (.int 1)))) (cNil)))) (cV 5)) (gN 8)) twCC1
noncomputable def twC0 : SS := sSeq (sFor (cWalk (cSl (cV 0) (cPart (cB addD (cV 3) (cC (.int 1)))) (cNone))) (gT (gsCons (gN 6) (gsCons (gN 7) (gsNil)))) twCC0) (sNil)
noncomputable def tw1 : SS := sSeq (sRet (cC (.non))) (sNil)
noncomputable def tw0 : SS := sSeq (sFor (cEnum (cV 0)) (gT (gsCons (gN 3) (gsCons (gT (gsCons (gN 4) (gsCons (gN 5) (gsNil)))) (gsNil)))) twC0) tw1
noncomputable def foC0 : SS := sSeq (sPut 1 (cV 2) (cTup (cCons (cTup (cCons (cTup (cCons (cV 3) (cCons (cC (.int 1)) (cNil)))) (cCons (cTup (cCons (cV 4) (cCons (cC (.int 1)) (cNil)))) (cNil)))) (cCons (cC (.int 0)) (cCons (cC (.non)) (cNil)))))) (sNil)
noncomputable def foDC3 : SS := sSeq (sIf (cBT isntD (cV 10) (cC (.non))) (sSeq (sPut 7 (cV 2) (cTup (cCons (cIx (cV 10) (cC (.int 0))) (cCons (cV 6) (cCons (cSl (cV 10) (cPart (cC (.int 1))) (cNone)) (cNil)))))) (sNil)) (sNil)) (sNil)
noncomputable def foDC2 : SS := sSeq (sAsg (cOr (cFn "_law_two" (cCons (cV 8) (cCons (cV 1) (cCons (cC (.bl false)) (cNil))))) (cFn "_law_two" (cCons (cV 9) (cCons (cV 1) (cCons (cC (.bl true)) (cNil)))))) (gN 10)) foDC3
noncomputable def foDC1 : SS := sSeq (sAsg (cLc [11] (cWalk (cIx (cV 0) (cC (.int 1)))) (gN 11) (cAndT (cBT eqD (cIx (cV 11) (cC (.int 0))) (cV 2)) (cBT inD (cIx (cV 11) (cC (.int 1))) (cV 1))) (cTup (cCons (cIx (cV 11) (cC (.int 1))) (cCons (cIx (cV 11) (cC (.int 2))) (cNil))))) (gN 9)) foDC2
noncomputable def foDC0 : SS := sSeq (sAsg (cLc [11] (cWalk (cIx (cV 0) (cC (.int 1)))) (gN 11) (cAndT (cBT eqD (cIx (cV 11) (cC (.int 1))) (cV 2)) (cBT inD (cIx (cV 11) (cC (.int 0))) (cV 1))) (cTup (cCons (cIx (cV 11) (cC (.int 0))) (cCons (cIx (cV 11) (cC (.int 2))) (cNil))))) (gN 8)) foDC1
noncomputable def foD3 : SS := sSeq (sUpd 1 (cV 7)) (sNil)
noncomputable def foD2 : SS := sSeq (sFor (cWalk (cLc [12] (cWalk (cV 5)) (gN 12) (cBT notInD (cV 12) (cV 1)) (cV 12))) (gN 2) foDC0) foD3
noncomputable def foD1 : SS := sSeq (sSetM 7 (cC (.dic false []))) foD2
noncomputable def foD0 : SS := sSeq (sAsg (cB addD (cV 6) (cC (.int 1))) (gN 6)) foD1
noncomputable def fo5 : SS := sSeq (sRet (cV 1)) (sNil)
noncomputable def fo4 : SS := sSeq (sWhile (cOrT (cBT eqD (cV 6) (cC (.int 0))) (cBT neD (cLc [2] (cKeys 1) (gN 2) (cBT eqD (cIx (cIx (cV 1) (cV 2)) (cC (.int 1))) (cV 6)) (cC (.int 1))) (cLst (cNil)))) foD0) fo5
noncomputable def fo3 : SS := sSeq (sAsg (cC (.int 0)) (gN 6)) fo4
noncomputable def fo2 : SS := sSeq (sAsg (cU setSortD (cB addD (cLc [11] (cWalk (cIx (cV 0) (cC (.int 1)))) (gN 11) (cTrue) (cIx (cV 11) (cC (.int 0)))) (cLc [11] (cWalk (cIx (cV 0) (cC (.int 1)))) (gN 11) (cTrue) (cIx (cV 11) (cC (.int 1)))))) (gN 5)) fo3
noncomputable def fo1 : SS := sSeq (sFor (cWalk (cIx (cV 0) (cC (.int 0)))) (gT (gsCons (gN 2) (gsCons (gT (gsCons (gN 3) (gsCons (gN 4) (gsNil)))) (gsNil)))) foC0) fo2
noncomputable def fo0 : SS := sSeq (sSetM 1 (cC (.dic false []))) fo1
noncomputable def spC0 : SS := sSeq (sPut 1 (cV 3) (cTup (cCons (cB subD (cB modD (cIx (cV 0) (cV 2)) (cC (.int 81))) (cC (.int 40))) (cCons (cB subD (cB modD (cB fdivD (cIx (cV 0) (cV 2)) (cC (.int 81))) (cC (.int 81))) (cC (.int 40))) (cNil))))) (sNil)
noncomputable def sp2 : SS := sSeq (sRet (cV 1)) (sNil)
noncomputable def sp1 : SS := sSeq (sFor (cEnum (cFn "_law_names" (cNil))) (gT (gsCons (gN 2) (gsCons (gN 3) (gsNil)))) spC0) sp2
noncomputable def sp0 : SS := sSeq (sSetM 1 (cC (.dic false []))) sp1
noncomputable def suC2 : SS := sSeq (sIf (cAndT (cBT neD (cV 6) (cV 7)) (cAndT (cBT ltD (cCall (op1 lenD) (cCons (cV 2) (cNil))) (cC (.int 16))) (cBT gtD (cB modD (cIx (cV 0) (cB addD (cC (.int 10)) (cV 3))) (cC (.int 4))) (cC (.int 0))))) (sSeq (sApp 2 (cTup (cCons (cV 4) (cCons (cV 5) (cCons (cFn "_law_lowest" (cCons (cTup (cCons (cB subD (cIx (cV 7) (cC (.int 0))) (cIx (cV 6) (cC (.int 0)))) (cCons (cB subD (cIx (cV 7) (cC (.int 1))) (cIx (cV 6) (cC (.int 1)))) (cNil)))) (cNil))) (cNil)))))) (sNil)) (sNil)) (sNil)
noncomputable def suC1 : SS := sSeq (sPar [6, 7] (cCons (cIx (cV 1) (cV 4)) (cCons (cIx (cV 1) (cV 5)) (cNil)))) suC2
noncomputable def suC0 : SS := sSeq (sPar [4, 5] (cCons (cIx (cFn "_law_names" (cNil)) (cB fdivD (cV 3) (cC (.int 5)))) (cCons (cIx (cFn "_law_names" (cNil)) (cB addD (cC (.int 5)) (cB modD (cV 3) (cC (.int 5))))) (cNil)))) suC1
noncomputable def suD0 : SS := sSeq (sIf (cAndT (cBT ltD (cCall (op1 lenD) (cCons (cV 8) (cNil))) (cIx (cLst (cCons (cC (.int 6)) (cCons (cC (.int 2)) (cCons (cC (.int 3)) (cCons (cC (.int 4)) (cNil)))))) (cB modD (cIx (cV 0) (cC (.int 35))) (cC (.int 4))))) (cBT eqD (cB modD (cIx (cV 0) (cB addD (cC (.int 36)) (cV 3))) (cC (.int 3))) (cC (.int 0)))) (sSeq (sApp 8 (cTup (cCons (cV 9) (cCons (cIx (cV 1) (cV 9)) (cNil))))) (sNil)) (sNil)) (sNil)
noncomputable def su6 : SS := sSeq (sRet (cTup (cCons (cTup (cCons (cCall (op1 tupleD) (cCons (cCall (op1 sortedD) (cCons (cV 8) (cNil))) (cNil))) (cCons (cCall (op1 tupleD) (cCons (cCall (op1 sortedD) (cCons (cV 2) (cNil))) (cNil))) (cNil)))) (cCons (cV 1) (cNil))))) (sNil)
noncomputable def su5 : SS := sSeq (sSetIf 8 (cBT neD (cV 8) (cLst (cNil))) (cND (cLst (cCons (cTup (cCons (cC (.str "ann")) (cCons (cIx (cV 1) (cC (.str "ann"))) (cNil)))) (cNil))))) su6
noncomputable def su4 : SS := sSeq (sFor (cEnum (cFn "_law_names" (cNil))) (gT (gsCons (gN 3) (gsCons (gN 9) (gsNil)))) suD0) su5
noncomputable def su3 : SS := sSeq (sSetM 8 (cND (cLst (cNil)))) su4
noncomputable def su2 : SS := sSeq (sFor (cRng1 (cC (.int 25))) (gN 3) suC0) su3
noncomputable def su1 : SS := sSeq (sSetM 2 (cND (cLst (cNil)))) su2
noncomputable def su0 : SS := sSeq (sAsg (cFn "_law_spread" (cCons (cV 0) (cNil))) (gN 1)) su1
noncomputable def faC2 : SS := sSeq (sApp 2 (cTup (cCons (cV 4) (cCons (cV 5) (cCons (cFn "_law_lowest" (cCons (cIx (cV 9) (cB modD (cV 8) (cC (.int 7)))) (cNil))) (cNil)))))) (sNil)
noncomputable def faC1 : SS := sSeq (sAsg (cLst (cCons (cTup (cCons (cV 6) (cCons (cV 7) (cNil)))) (cCons (cTup (cCons (cV 6) (cCons (cV 7) (cNil)))) (cCons (cTup (cCons (cV 6) (cCons (cV 7) (cNil)))) (cCons (cTup (cCons (cB subD (cC (.int 0)) (cV 6)) (cCons (cB subD (cC (.int 0)) (cV 7)) (cNil)))) (cCons (cTup (cCons (cB subD (cC (.int 0)) (cV 7)) (cCons (cV 6) (cNil)))) (cCons (cTup (cCons (cB addD (cC (.int 1)) (cB modD (cB fdivD (cV 8) (cC (.int 7))) (cC (.int 5)))) (cCons (cC (.int 1)) (cNil)))) (cCons (cTup (cCons (cC (.int 0)) (cCons (cC (.int 1)) (cNil)))) (cNil))))))))) (gN 9)) faC2
noncomputable def faC0 : SS := sSeq (sAsg (cIx (cV 1) (cV 3)) (gN 8)) faC1
noncomputable def fa2 : SS := sSeq (sRet (cTup (cCons (cIx (cV 0) (cC (.int 0))) (cCons (cCall (op1 tupleD) (cCons (cV 2) (cNil))) (cNil))))) (sNil)
noncomputable def fa1 : SS := sSeq (sFor (cEnum (cIx (cV 0) (cC (.int 1)))) (gT (gsCons (gN 3) (gsCons (gT (gsCons (gN 4) (gsCons (gN 5) (gsCons (gT (gsCons (gN 6) (gsCons (gN 7) (gsNil)))) (gsNil))))) (gsNil)))) faC0) fa2
noncomputable def fa0 : SS := sSeq (sSetM 2 (cND (cLst (cNil)))) fa1
noncomputable def k04C8 : SS := sSeq (sIf (cBT neD (cFn "located" (cCons (cV 3) (cNil))) (cV 6)) (sSeq (sRet (cC (.bl false))) (sNil)) (sNil)) (sNil)
noncomputable def k04C7 : SS := sSeq (sApp 7 (cC (.int 0))) k04C8
noncomputable def k04C6 : SS := sSeq (sIf (cOrT (cBT neD (cV 7) (cV 6)) (cNotT (cTr (cU (isiD ["list"]) (cV 7))))) (sSeq (sRet (cC (.bl false))) (sNil)) (sNil)) k04C7
noncomputable def k04C5 : SS := sSeq (sSetM 7 (cND (cFn "located" (cCons (cV 3) (cNil))))) k04C6
noncomputable def k04C4 : SS := sSeq (sAsg (cLc [10] (cWalk (cCall (op1 sortedD) (cCons (cV 5) (cNil)))) (gN 10) (cTrue) (cB addD (cTup (cCons (cV 10) (cNil))) (cSl (cIx (cV 5) (cV 10)) (cNone) (cPart (cC (.int 2)))))) (gN 6)) k04C5
noncomputable def k04C3 : SS := sSeq (sAsg (cFn "_law_found" (cCons (cV 3) (cNil))) (gN 5)) k04C4
noncomputable def k04C2 : SS := sSeq (sIf (cBT gtD (cV 1) (cC (.int 2))) (sSeq (sAsg (cFn "_law_false" (cCons (cV 3) (cCons (cFn "_law_draws" (cCons (cV 0) (cCons (cB addD (cV 1) (cC (.int 1))) (cCons (cC (.int 16)) (cCons (cC (.int 27720)) (cNil)))))) (cNil)))) (gN 3)) (sNil)) (sNil)) k04C3
noncomputable def k04C1 : SS := sSeq (sAsg (cFn "_law_survey" (cCons (cV 2) (cNil))) (gT (gsCons (gN 3) (gsCons (gN 4) (gsNil))))) k04C2
noncomputable def k04C0 : SS := sSeq (sAsg (cFn "_law_draws" (cCons (cV 0) (cCons (cV 1) (cCons (cC (.int 60)) (cCons (cC (.int 27720)) (cNil)))))) (gN 2)) k04C1
noncomputable def k044 : SS := sSeq (sRet (cB eqD (cFn "located" (cCons (cTup (cCons (cV 8) (cCons (cV 9) (cNil)))) (cNil))) (cV 7))) (sNil)
noncomputable def k043 : SS := sSeq (sSetM 7 (cND (cLst (cCons (cTup (cCons (cC (.str "ann")) (cCons (cTup (cCons (cTup (cCons (cC (.int 0)) (cCons (cC (.int 1)) (cNil)))) (cCons (cTup (cCons (cC (.int 0)) (cCons (cC (.int 1)) (cNil)))) (cNil)))) (cCons (cC (.int 0)) (cNil))))) (cCons (cTup (cCons (cC (.str "bo")) (cCons (cTup (cCons (cTup (cCons (cC (.int 2)) (cCons (cC (.int 1)) (cNil)))) (cCons (cTup (cCons (cC (.int 0)) (cCons (cC (.int 1)) (cNil)))) (cNil)))) (cCons (cC (.int 0)) (cNil))))) (cCons (cTup (cCons (cC (.str "box")) (cCons (cTup (cCons (cTup (cCons (cC (.int 1)) (cCons (cC (.int 1)) (cNil)))) (cCons (cTup (cCons (cC (.int 1)) (cCons (cC (.int 1)) (cNil)))) (cNil)))) (cCons (cC (.int 1)) (cNil))))) (cNil))))))) k044
noncomputable def k042 : SS := sSeq (sAsg (cTup (cCons (cTup (cCons (cC (.str "ann")) (cCons (cC (.str "box")) (cCons (cTup (cCons (cC (.int 1)) (cCons (cC (.int 1)) (cNil)))) (cNil))))) (cCons (cTup (cCons (cC (.str "bo")) (cCons (cC (.str "box")) (cCons (cTup (cCons (cB subD (cC (.int 0)) (cC (.int 1))) (cCons (cC (.int 1)) (cNil)))) (cNil))))) (cNil)))) (gN 9)) k043
noncomputable def k041 : SS := sSeq (sAsg (cTup (cCons (cTup (cCons (cC (.str "ann")) (cCons (cTup (cCons (cC (.int 0)) (cCons (cC (.int 0)) (cNil)))) (cNil)))) (cCons (cTup (cCons (cC (.str "bo")) (cCons (cTup (cCons (cC (.int 2)) (cCons (cC (.int 0)) (cNil)))) (cNil)))) (cNil)))) (gN 8)) k042
noncomputable def k040 : SS := sSeq (sFor (cWalk (cTup (cCons (cC (.int 0)) (cCons (cC (.int 2)) (cCons (cC (.int 4)) (cCons (cC (.int 6)) (cNil))))))) (gN 1) k04C0) k041
theorem ft_eq : b_first_two = ft0 := rfl
theorem nf_eq : b_next_found = nf0 := rfl
theorem af_eq : b_all_found = af0 := rfl
theorem tw_eq : b__law_two = tw0 := rfl
theorem fo_eq : b__law_found = fo0 := rfl
theorem sp_eq : b__law_spread = sp0 := rfl
theorem su_eq : b__law_survey = su0 := rfl
theorem fa_eq : b__law_false = fa0 := rfl
theorem k04_eq : b_law = k040 := rfl
end L
namespace RE
/-- a loop that may be left with an answer -/
theorem for_first {α : Type} {asg : SG} {body : RE.Env → Option Res} (I : RE.Env → Prop) (g : α → D) (h : α → Option D) : ∀ (l : List α) (ρ : RE.Env), I ρ → (∀ a ∈ l, ∀ ρ, I ρ → ∃ r, ((asg (g a) ρ).bind body) = some r ∧ ((∃ d, h a = some d ∧ r = .rt false d) ∨ (h a = none ∧ ∃ ρ', r = .nx ρ' ∧ I ρ'))) →
    ∃ r, forD asg body (l.map g) ρ = some r ∧ ((∃ d, l.findSome? h = some d ∧ r = .rt false d) ∨ (l.findSome? h = none ∧ ∃ ρ', r = .nx ρ' ∧ I ρ'))
  | [], ρ, hI, _ => ⟨.nx ρ, rfl, .inr ⟨rfl, ρ, rfl, hI⟩⟩
  | a :: l, ρ, hI, k => by
    obtain ⟨r, e, q⟩ := k a List.mem_cons_self ρ hI
    obtain ⟨ρ1, e1, e2⟩ := Option.bind_eq_some_iff.mp e
    rcases q with ⟨d, q1, rfl⟩ | ⟨q1, ρ', rfl, q2⟩
    · refine ⟨.rt false d, ?_, .inl ⟨d, by rw [List.findSome?_cons, q1], rfl⟩⟩
      rw [List.map_cons, forD, e1, obS, e2]
      rfl
    · obtain ⟨r, e3, q3⟩ := for_first I g h l ρ' q2 fun b hb => k b (List.mem_cons_of_mem _ hb)
      refine ⟨r, ?_, ?_⟩
      · rw [List.map_cons, forD, e1, obS, e2]
        exact e3
      · rw [List.findSome?_cons, q1]
        exact q3
theorem findSome_map {α β γ : Type} (f : α → Option β) (g : β → γ) : ∀ l : List α, l.findSome? (fun a => (f a).map g) = (l.findSome? f).map g
  | [] => rfl
  | a :: l => by
    rw [List.findSome?_cons, List.findSome?_cons]
    cases f a with
    | none => exact findSome_map f g l
    | some b => rfl
/-! surveys -/
abbrev Sg := Str × Str × (Int × Int)
abbrev Rwy := Str × (Int × Int)
def knD (k : Rwy) : D := .tup [.str k.1, wy k.2]
def sgD (s : Sg) : D := .tup [.str s.1, .str s.2.1, wy s.2.2]
def svD (K : List Rwy) (S : List Sg) : D := .tup [.tup (K.map knD), .tup (S.map sgD)]
structure Ent where
  x : Rat
  y : Rat
  t : Nat
  two : Option (Str × Str)
def twoD : Option (Str × Str) → D
  | none => .non
  | some p => .tup [.str p.1, .str p.2]
def entD (e : Ent) : D := .tup [pt e.x e.y, natD e.t, twoD e.two]
abbrev Wh := List (Str × Ent)
abbrev Tr := (Rat × Rat) × Str × Str
def trD (p : Tr) : D := .tup [pt p.1.1 p.1.2, .str p.2.1, .str p.2.2]
def optT : Option Tr → D
  | none => .non
  | some p => trD p
abbrev Jn := Rwy → Rwy → Option (Rat × Rat)
def row2 (J : Jn) (r : Rwy) (rs : List Rwy) : Option Tr := rs.findSome? fun q => (J r q).map fun p => (p, r.1, q.1)
def first2 (J : Jn) : List Rwy → Option Tr
  | [] => none
  | r :: rs => (row2 J r rs).or (first2 J rs)
def tails3 : Nat → List Rwy → List (Nat × Rwy × List Rwy)
  | _, [] => []
  | k, r :: rs => (k, r, rs) :: tails3 (k + 1) rs
theorem tails_enum : ∀ (rows : List Rwy) (k : Nat), enumL k (rows.map knD) = (tails3 k rows).map fun z => .tup [natD z.1, knD z.2.1]
  | [], _ => rfl
  | r :: rs, k => by
    rw [List.map_cons, enumL, tails3, List.map_cons, tails_enum rs (k + 1)]
    rfl
theorem tails_first (J : Jn) : ∀ (rows : List Rwy) (k : Nat), (tails3 k rows).findSome? (fun z => row2 J z.2.1 z.2.2) = first2 J rows
  | [], _ => rfl
  | r :: rs, k => by
    rw [tails3, List.findSome?_cons, first2]
    cases h : row2 J r rs with
    | none => rw [tails_first J rs (k + 1)]; rfl
    | some x => rfl
theorem tails_drop : ∀ (rows : List Rwy) (k : Nat) (z : Nat × Rwy × List Rwy), z ∈ tails3 k rows → k ≤ z.1 ∧ rows.drop (z.1 - k + 1) = z.2.2 ∧ z.1 < k + rows.length
  | [], _, z, h => by cases h
  | r :: rs, k, z, h => by
    rw [tails3] at h
    rcases List.mem_cons.mp h with rfl | h
    · refine ⟨Nat.le_refl _, ?_, by rw [List.length_cons]; show k < _; omega⟩
      show (r :: rs).drop (k - k + 1) = rs
      rw [Nat.sub_self]; rfl
    · obtain ⟨h1, h2, h3⟩ := tails_drop rs (k + 1) z h
      refine ⟨by omega, ?_, by rw [List.length_cons]; omega⟩
      rw [← h2, show z.1 - k + 1 = (z.1 - (k + 1) + 1) + 1 by omega]
      rfl
theorem tails_pw {P : Rwy → Rwy → Prop} : ∀ (rows : List Rwy) (k : Nat), rows.Pairwise P → ∀ z ∈ tails3 k rows, ∀ q ∈ z.2.2, P z.2.1 q
  | [], _, _, z, h, _, _ => by cases h
  | r :: rs, k, hp, z, h, q, hq => by
    obtain ⟨h1, h2⟩ := List.pairwise_cons.mp hp
    rw [tails3] at h
    rcases List.mem_cons.mp h with rfl | h
    · exact h1 q hq
    · exact tails_pw rs (k + 1) h2 z h q hq
theorem s_cFnP (i : Nat) (gs : List Str) (g : SA) (F : Fn) (ρ : RE.Env) : cFnP i gs g F ρ = (cV i F ρ).bind fun d => match d with
  | .fn f => if f ∈ gs then (g F ρ).bind fun ds => F f ds else none
  | _ => none := (rfl)
theorem isnt_optD (o : Option (Rat × Rat)) : isntD (optD o) .non = some (.bl o.isSome) := by cases o <;> rfl
theorem isnt_optT (o : Option Tr) : isntD (optT o) .non = some (.bl o.isSome) := by cases o <;> rfl
theorem ent_idx0 (e : Ent) : idxD (entD e) (.int 0) = some (pt e.x e.y) := idx_t0 _ _
end RE
namespace L
theorem first_two_ev (F : Fn) (rows : List Rwy) (hl : rows.length ≤ 100) (W : Wh) (g : Str) (hg : g = "meet" ∨ g = "stand") (J : Jn) (hF : rows.Pairwise fun r q => ∃ e e', getA W r.1 = some e ∧ getA W q.1 = some e' ∧ F g [pt e.x e.y, wy r.2, pt e'.x e'.y, wy q.2] = some (optD (J r q))) :
    b_first_two F [some (.lst (rows.map knD)), some (asD entD W), some (.fn g), none, none, none, none, none, none] = some (.rt false (optT (first2 J rows))) := by
  have hgs : g ∈ [Str.ofString "meet", "stand", "_law_draws", "_law_joint"] := by
    rcases hg with rfl | rfl <;> simp
  let I : RE.Env → Prop := fun ρ => ∃ x3 x4 x5 x6 x7 x8, ρ = [some (.lst (rows.map knD)), some (asD entD W), some (.fn g), x3, x4, x5, x6, x7, x8]
  have inner : ∀ z ∈ tails3 0 rows, ∀ x6 x7 x8, ∃ r, ftC0 F [some (.lst (rows.map knD)), some (asD entD W), some (.fn g), some (natD z.1), some (.str z.2.1.1), some (wy z.2.1.2), x6, x7, x8] = some r ∧
      ((∃ d, (row2 J z.2.1 z.2.2).map trD = some d ∧ r = .rt false d) ∨ ((row2 J z.2.1 z.2.2).map trD = none ∧ ∃ ρ', r = .nx ρ' ∧ I ρ')) := by
    intro z hz x6 x7 x8
    obtain ⟨_, hd, hlt⟩ := tails_drop rows 0 z hz
    have hq := tails_pw rows 0 hF z hz
    obtain ⟨k, r, rs⟩ := z
    simp only at hd hlt hq ⊢
    have a1 : addD (natD k) (.int 1) = some (.int ((k + 1 : Nat) : Int)) := rfl
    have i1 : RE.intD (.int ((k + 1 : Nat) : Int)) = some ((k + 1 : Nat) : Int) := rfl
    have c1 : cutL (rows.map knD) (some ((k + 1 : Nat) : Int)) none = rs.map knD := by
      have := cut_from (rows.map knD) (k + 1)
      rw [this, ← List.map_drop]
      rw [Nat.sub_zero] at hd
      rw [hd]
    have row := for_first (asg := gT (gsCons (gN 6) (gsCons (gN 7) gsNil))) (body := ftCC0 F) (fun ρ => ∃ x6 x7 x8, ρ = [some (.lst (rows.map knD)), some (asD entD W), some (.fn g), some (natD k), some (.str r.1), some (wy r.2), x6, x7, x8]) knD (fun q => ((J r q).map fun p => (p, r.1, q.1)).map trD) rs
      [some (.lst (rows.map knD)), some (asD entD W), some (.fn g), some (natD k), some (.str r.1), some (wy r.2), x6, x7, x8] ⟨_, _, _, rfl⟩ (by
      rintro q hqm ρ ⟨y6, y7, y8, rfl⟩
      obtain ⟨e, e', g1, g2, g3⟩ := hq q hqm
      have ga : gT (gsCons (gN 6) (gsCons (gN 7) gsNil)) (knD q) [some (.lst (rows.map knD)), some (asD entD W), some (.fn g), some (natD k), some (.str r.1), some (wy r.2), y6, y7, y8] = some [some (.lst (rows.map knD)), some (asD entD W), some (.fn g), some (natD k), some (.str r.1), some (wy r.2), some (.str q.1), some (wy q.2), y8] := rfl
      rw [ga, obS]
      have j1 := idx_as entD g1
      have j2 := idx_as entD g2
      have k1 := ent_idx0 e
      have k2 := ent_idx0 e'
      have is := isnt_optD (J r q)
      have e0 : ftCC0 F [some (.lst (rows.map knD)), some (asD entD W), some (.fn g), some (natD k), some (.str r.1), some (wy r.2), some (.str q.1), some (wy q.2), y8] = ftCC1 F [some (.lst (rows.map knD)), some (asD entD W), some (.fn g), some (natD k), some (.str r.1), some (wy r.2), some (.str q.1), some (wy q.2), some (optD (J r q))] := by
        generalize D.lst (rows.map knD) = RW at *
        generalize asD entD W = WD at *
        generalize wy r.2 = W1 at *
        generalize wy q.2 = W2 at *
        unfold ftCC0
        simp only [s_sSeq, s_sAsg, s_cFnP, s_cVs, s_cV0, obS, if_pos hgs, s_cCons, s_cIx, s_cC, s_cNil, j1, j2, k1, k2, g3, s_gN, omS, List.set_cons_succ, List.set_cons_zero]
      rw [e0]
      cases hJ : J r q with
      | none =>
        rw [hJ] at is
        refine ⟨.nx [some (.lst (rows.map knD)), some (asD entD W), some (.fn g), some (natD k), some (.str r.1), some (wy r.2), some (.str q.1), some (wy q.2), some (optD none)], ?_, .inr ⟨rfl, _, rfl, _, _, _, rfl⟩⟩
        unfold ftCC1
        simp only [s_sSeq, s_sNil, s_sRet, s_sRetT, s_sIf, s_sAsg, s_sPar, s_sSetM, s_cND, s_cC, s_cB, s_cU, s_cTup, s_cLst, s_cNil, s_cCons, s_cCall, s_cFn, s_cIx, s_cAnd, s_cOr, s_cNot, s_cIf, s_cTr, s_cBT, s_cAndT, s_cOrT, s_cNotT, s_cCh, s_cChT, s_cSl, s_sFor, s_cWalk, s_cLc, s_lcOne, s_cTrue, s_sApp, s_gN, s_gT, s_gsNil, s_gsCons, s_cV0, s_cVs, s_finR, s_finN, s_boolD, s_truB, s_setAll0, s_setAll1, s_op1, s_op2, s_abs, s_addI, s_subI, eqI, neI, ltI, gtI, leI, geI, mkTup1, mkTup2, mkTup3, idx_t0, idx_t1, idx_t2, obS, omS, List.set_cons_zero, List.set_cons_succ, s_cNone, s_cPart, s_intD, s_cRng1, s_walkL, s_walkT, s_lenT, s_lenL, s_lenS, s_slT, s_slL, if_true, if_false, decide_true, decide_false, Bool.not_true, Bool.not_false, Bool.and_true, Bool.and_false, Bool.true_and, Bool.false_and, Bool.false_eq_true, decide_eq_true_eq, s_cEnum, s_sPut, s_revL, s_revT, s_listL, s_listT, s_tupleL, s_tupleT, s_isDicLst, s_isDicTup, s_isDicInt, wipeE_nil, wipeE_cons, is, Option.isSome]
      | some p =>
        rw [hJ] at is
        refine ⟨_, ?_, .inl ⟨_, rfl, rfl⟩⟩
        unfold ftCC1
        simp only [s_sSeq, s_sNil, s_sRet, s_sRetT, s_sIf, s_sAsg, s_sPar, s_sSetM, s_cND, s_cC, s_cB, s_cU, s_cTup, s_cLst, s_cNil, s_cCons, s_cCall, s_cFn, s_cIx, s_cAnd, s_cOr, s_cNot, s_cIf, s_cTr, s_cBT, s_cAndT, s_cOrT, s_cNotT, s_cCh, s_cChT, s_cSl, s_sFor, s_cWalk, s_cLc, s_lcOne, s_cTrue, s_sApp, s_gN, s_gT, s_gsNil, s_gsCons, s_cV0, s_cVs, s_finR, s_finN, s_boolD, s_truB, s_setAll0, s_setAll1, s_op1, s_op2, s_abs, s_addI, s_subI, eqI, neI, ltI, gtI, leI, geI, mkTup1, mkTup2, mkTup3, idx_t0, idx_t1, idx_t2, obS, omS, List.set_cons_zero, List.set_cons_succ, s_cNone, s_cPart, s_intD, s_cRng1, s_walkL, s_walkT, s_lenT, s_lenL, s_lenS, s_slT, s_slL, if_true, if_false, decide_true, decide_false, Bool.not_true, Bool.not_false, Bool.and_true, Bool.and_false, Bool.true_and, Bool.false_and, Bool.false_eq_true, decide_eq_true_eq, s_cEnum, s_sPut, s_revL, s_revT, s_listL, s_listT, s_tupleL, s_tupleT, s_isDicLst, s_isDicTup, s_isDicInt, wipeE_nil, wipeE_cons, is, Option.isSome]
        rfl)
    obtain ⟨r', e1, e2⟩ := row
    have fs : rs.findSome? (fun q => ((J r q).map fun p => (p, r.1, q.1)).map trD) = (row2 J r rs).map trD := by
      exact findSome_map _ _ _
    rw [fs] at e2
    have e3 : ftC0 F [some (.lst (rows.map knD)), some (asD entD W), some (.fn g), some (natD k), some (.str r.1), some (wy r.2), x6, x7, x8] = (some r').bind fun r => match r with | .nx ρ' => sNil F ρ' | .rt b d => some (.rt b d) := by
      unfold ftC0
      rw [s_sSeq, s_sFor]
      simp only [s_cWalk, s_cSl, s_cPart, s_cB, s_cVs, s_cV0, s_cC, s_cNone, obS, a1, i1, omS, s_slL, c1, s_walkL]
      rw [e1]
      rfl
    rw [e3]
    rcases e2 with ⟨d, q1, rfl⟩ | ⟨q1, ρ', rfl, y6, y7, y8, rfl⟩
    · exact ⟨_, rfl, .inl ⟨d, q1, rfl⟩⟩
    · exact ⟨_, rfl, .inr ⟨q1, _, rfl, _, _, _, _, _, _, rfl⟩⟩
  obtain ⟨r, e1, e2⟩ := for_first (asg := gT (gsCons (gN 3) (gsCons (gT (gsCons (gN 4) (gsCons (gN 5) gsNil))) gsNil))) (body := ftC0 F) I (fun z : Nat × Rwy × List Rwy => .tup [natD z.1, knD z.2.1]) (fun z => (row2 J z.2.1 z.2.2).map trD) (tails3 0 rows)
    [some (.lst (rows.map knD)), some (asD entD W), some (.fn g), none, none, none, none, none, none] ⟨_, _, _, _, _, _, rfl⟩ (by
    rintro z hz ρ ⟨x3, x4, x5, x6, x7, x8, rfl⟩
    have ga : gT (gsCons (gN 3) (gsCons (gT (gsCons (gN 4) (gsCons (gN 5) gsNil))) gsNil)) (.tup [natD z.1, knD z.2.1]) [some (.lst (rows.map knD)), some (asD entD W), some (.fn g), x3, x4, x5, x6, x7, x8] = some [some (.lst (rows.map knD)), some (asD entD W), some (.fn g), some (natD z.1), some (.str z.2.1.1), some (wy z.2.1.2), x6, x7, x8] := rfl
    rw [ga, obS]
    exact inner z hz x6 x7 x8)
  have fs : (tails3 0 rows).findSome? (fun z => (row2 J z.2.1 z.2.2).map trD) = (first2 J rows).map trD := by
    rw [← tails_first J rows 0]
    exact findSome_map _ _ _
  rw [fs] at e2
  rw [ft_eq]
  unfold ft0
  rw [s_sSeq, s_sFor]
  simp only [s_cEnum, s_cV0, obS, s_walkL, omS]
  rw [tails_enum rows 0, e1]
  simp only [obS]
  rcases e2 with ⟨d, q1, rfl⟩ | ⟨q1, ρ', rfl, x3, x4, x5, x6, x7, x8, rfl⟩
  · obtain ⟨p, hp, rfl⟩ := Option.map_eq_some_iff.mp q1
    rw [hp]
    rfl
  · rw [Option.map_eq_none_iff.mp q1]
    unfold ft1
    simp only [s_sSeq, s_sNil, s_sRet, s_sRetT, s_sIf, s_sAsg, s_sPar, s_sSetM, s_cND, s_cC, s_cB, s_cU, s_cTup, s_cLst, s_cNil, s_cCons, s_cCall, s_cFn, s_cIx, s_cAnd, s_cOr, s_cNot, s_cIf, s_cTr, s_cBT, s_cAndT, s_cOrT, s_cNotT, s_cCh, s_cChT, s_cSl, s_sFor, s_cWalk, s_cLc, s_lcOne, s_cTrue, s_sApp, s_gN, s_gT, s_gsNil, s_gsCons, s_cV0, s_cVs, s_finR, s_finN, s_boolD, s_truB, s_setAll0, s_setAll1, s_op1, s_op2, s_abs, s_addI, s_subI, eqI, neI, ltI, gtI, leI, geI, mkTup1, mkTup2, mkTup3, idx_t0, idx_t1, idx_t2, obS, omS, List.set_cons_zero, List.set_cons_succ, s_cNone, s_cPart, s_intD, s_cRng1, s_walkL, s_walkT, s_lenT, s_lenL, s_lenS, s_slT, s_slL, if_true, if_false, decide_true, decide_false, Bool.not_true, Bool.not_false, Bool.and_true, Bool.and_false, Bool.true_and, Bool.false_and, Bool.false_eq_true, decide_eq_true_eq, s_cEnum, s_sPut, s_revL, s_revT, s_listL, s_listT, s_tupleL, s_tupleT, s_isDicLst, s_isDicTup, s_isDicInt, wipeE_nil, wipeE_cons]
    rfl
theorem law_two_ev (F : Fn) (rows : List Rwy) (hl : rows.length ≤ 100) (W : Wh) (bk : Bool) (J : Jn) (hF : rows.Pairwise fun r q => ∃ e e', getA W r.1 = some e ∧ getA W q.1 = some e' ∧ F "_law_joint" [pt e.x e.y, wy (if bk then ngw r.2 else r.2), pt e'.x e'.y, wy (if bk then ngw q.2 else q.2)] = some (optD (J r q))) :
    b__law_two F [some (.lst (rows.map knD)), some (asD entD W), some (.bl bk), none, none, none, none, none, none, none, none] = some (.rt false (optT (first2 J rows))) := by
  let I : RE.Env → Prop := fun ρ => ∃ x3 x4 x5 x6 x7 x8 x9 x10, ρ = [some (.lst (rows.map knD)), some (asD entD W), some (.bl bk), x3, x4, x5, x6, x7, x8, x9, x10]
  have inner : ∀ z ∈ tails3 0 rows, ∀ x6 x7 x8 x9 x10, ∃ r, twC0 F [some (.lst (rows.map knD)), some (asD entD W), some (.bl bk), some (natD z.1), some (.str z.2.1.1), some (wy z.2.1.2), x6, x7, x8, x9, x10] = some r ∧
      ((∃ d, (row2 J z.2.1 z.2.2).map trD = some d ∧ r = .rt false d) ∨ ((row2 J z.2.1 z.2.2).map trD = none ∧ ∃ ρ', r = .nx ρ' ∧ I ρ')) := by
    intro z hz x6 x7 x8 x9 x10
    obtain ⟨_, hd, hlt⟩ := tails_drop rows 0 z hz
    have hq := tails_pw rows 0 hF z hz
    obtain ⟨k, r, rs⟩ := z
    simp only at hd hlt hq ⊢
    have a1 : addD (natD k) (.int 1) = some (.int ((k + 1 : Nat) : Int)) := rfl
    have i1 : RE.intD (.int ((k + 1 : Nat) : Int)) = some ((k + 1 : Nat) : Int) := rfl
    have c1 : cutL (rows.map knD) (some ((k + 1 : Nat) : Int)) none = rs.map knD := by
      have := cut_from (rows.map knD) (k + 1)
      rw [this, ← List.map_drop]
      rw [Nat.sub_zero] at hd
      rw [hd]
    have row := for_first (asg := gT (gsCons (gN 6) (gsCons (gN 7) gsNil))) (body := twCC0 F) (fun ρ => ∃ x6 x7 x8 x9 x10, ρ = [some (.lst (rows.map knD)), some (asD entD W), some (.bl bk), some (natD k), some (.str r.1), some (wy r.2), x6, x7, x8, x9, x10]) knD (fun q => ((J r q).map fun p => (p, r.1, q.1)).map trD) rs
      [some (.lst (rows.map knD)), some (asD entD W), some (.bl bk), some (natD k), some (.str r.1), some (wy r.2), x6, x7, x8, x9, x10] ⟨_, _, _, _, _, rfl⟩ (by
      rintro q hqm ρ ⟨y6, y7, y8, y9, y10, rfl⟩
      obtain ⟨e, e', g1, g2, g3⟩ := hq q hqm
      have ga : gT (gsCons (gN 6) (gsCons (gN 7) gsNil)) (knD q) [some (.lst (rows.map knD)), some (asD entD W), some (.bl bk), some (natD k), some (.str r.1), some (wy r.2), y6, y7, y8, y9, y10] = some [some (.lst (rows.map knD)), some (asD entD W), some (.bl bk), some (natD k), some (.str r.1), some (wy r.2), some (.str q.1), some (wy q.2), y8, y9, y10] := rfl
      rw [ga, obS]
      have j1 := idx_as entD g1
      have j2 := idx_as entD g2
      have k1 := ent_idx0 e
      have k2 := ent_idx0 e'
      have is := isnt_optD (J r q)
      have i1 := idx_w0 r.2
      have i2 := idx_w1 r.2
      have i3 := idx_w0 q.2
      have i4 := idx_w1 q.2
      have w1 : ∀ (w : Int × Int), D.tup [.int (0 - w.1), .int (0 - w.2)] = wy (ngw w) := fun w => rfl
      have e0 : twCC0 F [some (.lst (rows.map knD)), some (asD entD W), some (.bl bk), some (natD k), some (.str r.1), some (wy r.2), some (.str q.1), some (wy q.2), y8, y9, y10] = twCC3 F [some (.lst (rows.map knD)), some (asD entD W), some (.bl bk), some (natD k), some (.str r.1), some (wy r.2), some (.str q.1), some (wy q.2), some (wy (if bk then ngw r.2 else r.2)), some (wy (if bk then ngw q.2 else q.2)), some (optD (J r q))] := by
        generalize D.lst (rows.map knD) = RW at *
        generalize asD entD W = WD at *
        cases bk with
        | true =>
          simp only [if_true] at g3
          unfold twCC0
          simp only [s_sSeq, s_sNil, s_sRet, s_sRetT, s_sIf, s_sAsg, s_sPar, s_sSetM, s_cND, s_cC, s_cB, s_cU, s_cTup, s_cLst, s_cNil, s_cCons, s_cCall, s_cFn, s_cIx, s_cAnd, s_cOr, s_cNot, s_cIf, s_cTr, s_cBT, s_cAndT, s_cOrT, s_cNotT, s_cCh, s_cChT, s_cSl, s_sFor, s_cWalk, s_cLc, s_lcOne, s_cTrue, s_sApp, s_gN, s_gT, s_gsNil, s_gsCons, s_cV0, s_cVs, s_finR, s_finN, s_boolD, s_truB, s_setAll0, s_setAll1, s_op1, s_op2, s_abs, s_addI, s_subI, eqI, neI, ltI, gtI, leI, geI, mkTup1, mkTup2, mkTup3, idx_t0, idx_t1, idx_t2, obS, omS, List.set_cons_zero, List.set_cons_succ, s_cNone, s_cPart, s_intD, s_cRng1, s_walkL, s_walkT, s_lenT, s_lenL, s_lenS, s_slT, s_slL, if_true, if_false, decide_true, decide_false, Bool.not_true, Bool.not_false, Bool.and_true, Bool.and_false, Bool.true_and, Bool.false_and, Bool.false_eq_true, decide_eq_true_eq, s_cEnum, s_sPut, s_revL, s_revT, s_listL, s_listT, s_tupleL, s_tupleT, s_isDicLst, s_isDicTup, s_isDicInt, wipeE_nil, wipeE_cons, s_cTr, i1, i2, w1]
          unfold twCC1
          simp only [s_sSeq, s_sNil, s_sRet, s_sRetT, s_sIf, s_sAsg, s_sPar, s_sSetM, s_cND, s_cC, s_cB, s_cU, s_cTup, s_cLst, s_cNil, s_cCons, s_cCall, s_cFn, s_cIx, s_cAnd, s_cOr, s_cNot, s_cIf, s_cTr, s_cBT, s_cAndT, s_cOrT, s_cNotT, s_cCh, s_cChT, s_cSl, s_sFor, s_cWalk, s_cLc, s_lcOne, s_cTrue, s_sApp, s_gN, s_gT, s_gsNil, s_gsCons, s_cV0, s_cVs, s_finR, s_finN, s_boolD, s_truB, s_setAll0, s_setAll1, s_op1, s_op2, s_abs, s_addI, s_subI, eqI, neI, ltI, gtI, leI, geI, mkTup1, mkTup2, mkTup3, idx_t0, idx_t1, idx_t2, obS, omS, List.set_cons_zero, List.set_cons_succ, s_cNone, s_cPart, s_intD, s_cRng1, s_walkL, s_walkT, s_lenT, s_lenL, s_lenS, s_slT, s_slL, if_true, if_false, decide_true, decide_false, Bool.not_true, Bool.not_false, Bool.and_true, Bool.and_false, Bool.true_and, Bool.false_and, Bool.false_eq_true, decide_eq_true_eq, s_cEnum, s_sPut, s_revL, s_revT, s_listL, s_listT, s_tupleL, s_tupleT, s_isDicLst, s_isDicTup, s_isDicInt, wipeE_nil, wipeE_cons, s_cTr, i3, i4, w1]
          unfold twCC2
          simp only [s_sSeq, s_sNil, s_sRet, s_sRetT, s_sIf, s_sAsg, s_sPar, s_sSetM, s_cND, s_cC, s_cB, s_cU, s_cTup, s_cLst, s_cNil, s_cCons, s_cCall, s_cFn, s_cIx, s_cAnd, s_cOr, s_cNot, s_cIf, s_cTr, s_cBT, s_cAndT, s_cOrT, s_cNotT, s_cCh, s_cChT, s_cSl, s_sFor, s_cWalk, s_cLc, s_lcOne, s_cTrue, s_sApp, s_gN, s_gT, s_gsNil, s_gsCons, s_cV0, s_cVs, s_finR, s_finN, s_boolD, s_truB, s_setAll0, s_setAll1, s_op1, s_op2, s_abs, s_addI, s_subI, eqI, neI, ltI, gtI, leI, geI, mkTup1, mkTup2, mkTup3, idx_t0, idx_t1, idx_t2, obS, omS, List.set_cons_zero, List.set_cons_succ, s_cNone, s_cPart, s_intD, s_cRng1, s_walkL, s_walkT, s_lenT, s_lenL, s_lenS, s_slT, s_slL, if_true, if_false, decide_true, decide_false, Bool.not_true, Bool.not_false, Bool.and_true, Bool.and_false, Bool.true_and, Bool.false_and, Bool.false_eq_true, decide_eq_true_eq, s_cEnum, s_sPut, s_revL, s_revT, s_listL, s_listT, s_tupleL, s_tupleT, s_isDicLst, s_isDicTup, s_isDicInt, wipeE_nil, wipeE_cons, j1, j2, k1, k2, g3]
        | false =>
          simp only [Bool.false_eq_true, if_false] at g3
          unfold twCC0
          simp only [s_sSeq, s_sNil, s_sRet, s_sRetT, s_sIf, s_sAsg, s_sPar, s_sSetM, s_cND, s_cC, s_cB, s_cU, s_cTup, s_cLst, s_cNil, s_cCons, s_cCall, s_cFn, s_cIx, s_cAnd, s_cOr, s_cNot, s_cIf, s_cTr, s_cBT, s_cAndT, s_cOrT, s_cNotT, s_cCh, s_cChT, s_cSl, s_sFor, s_cWalk, s_cLc, s_lcOne, s_cTrue, s_sApp, s_gN, s_gT, s_gsNil, s_gsCons, s_cV0, s_cVs, s_finR, s_finN, s_boolD, s_truB, s_setAll0, s_setAll1, s_op1, s_op2, s_abs, s_addI, s_subI, eqI, neI, ltI, gtI, leI, geI, mkTup1, mkTup2, mkTup3, idx_t0, idx_t1, idx_t2, obS, omS, List.set_cons_zero, List.set_cons_succ, s_cNone, s_cPart, s_intD, s_cRng1, s_walkL, s_walkT, s_lenT, s_lenL, s_lenS, s_slT, s_slL, if_true, if_false, decide_true, decide_false, Bool.not_true, Bool.not_false, Bool.and_true, Bool.and_false, Bool.true_and, Bool.false_and, Bool.false_eq_true, decide_eq_true_eq, s_cEnum, s_sPut, s_revL, s_revT, s_listL, s_listT, s_tupleL, s_tupleT, s_isDicLst, s_isDicTup, s_isDicInt, wipeE_nil, wipeE_cons, s_cTr]
          unfold twCC1
          simp only [s_sSeq, s_sNil, s_sRet, s_sRetT, s_sIf, s_sAsg, s_sPar, s_sSetM, s_cND, s_cC, s_cB, s_cU, s_cTup, s_cLst, s_cNil, s_cCons, s_cCall, s_cFn, s_cIx, s_cAnd, s_cOr, s_cNot, s_cIf, s_cTr, s_cBT, s_cAndT, s_cOrT, s_cNotT, s_cCh, s_cChT, s_cSl, s_sFor, s_cWalk, s_cLc, s_lcOne, s_cTrue, s_sApp, s_gN, s_gT, s_gsNil, s_gsCons, s_cV0, s_cVs, s_finR, s_finN, s_boolD, s_truB, s_setAll0, s_setAll1, s_op1, s_op2, s_abs, s_addI, s_subI, eqI, neI, ltI, gtI, leI, geI, mkTup1, mkTup2, mkTup3, idx_t0, idx_t1, idx_t2, obS, omS, List.set_cons_zero, List.set_cons_succ, s_cNone, s_cPart, s_intD, s_cRng1, s_walkL, s_walkT, s_lenT, s_lenL, s_lenS, s_slT, s_slL, if_true, if_false, decide_true, decide_false, Bool.not_true, Bool.not_false, Bool.and_true, Bool.and_false, Bool.true_and, Bool.false_and, Bool.false_eq_true, decide_eq_true_eq, s_cEnum, s_sPut, s_revL, s_revT, s_listL, s_listT, s_tupleL, s_tupleT, s_isDicLst, s_isDicTup, s_isDicInt, wipeE_nil, wipeE_cons, s_cTr]
          unfold twCC2
          simp only [s_sSeq, s_sNil, s_sRet, s_sRetT, s_sIf, s_sAsg, s_sPar, s_sSetM, s_cND, s_cC, s_cB, s_cU, s_cTup, s_cLst, s_cNil, s_cCons, s_cCall, s_cFn, s_cIx, s_cAnd, s_cOr, s_cNot, s_cIf, s_cTr, s_cBT, s_cAndT, s_cOrT, s_cNotT, s_cCh, s_cChT, s_cSl, s_sFor, s_cWalk, s_cLc, s_lcOne, s_cTrue, s_sApp, s_gN, s_gT, s_gsNil, s_gsCons, s_cV0, s_cVs, s_finR, s_finN, s_boolD, s_truB, s_setAll0, s_setAll1, s_op1, s_op2, s_abs, s_addI, s_subI, eqI, neI, ltI, gtI, leI, geI, mkTup1, mkTup2, mkTup3, idx_t0, idx_t1, idx_t2, obS, omS, List.set_cons_zero, List.set_cons_succ, s_cNone, s_cPart, s_intD, s_cRng1, s_walkL, s_walkT, s_lenT, s_lenL, s_lenS, s_slT, s_slL, if_true, if_false, decide_true, decide_false, Bool.not_true, Bool.not_false, Bool.and_true, Bool.and_false, Bool.true_and, Bool.false_and, Bool.false_eq_true, decide_eq_true_eq, s_cEnum, s_sPut, s_revL, s_revT, s_listL, s_listT, s_tupleL, s_tupleT, s_isDicLst, s_isDicTup, s_isDicInt, wipeE_nil, wipeE_cons, j1, j2, k1, k2, g3]
      rw [e0]
      cases hJ : J r q with
      | none =>
        rw [hJ] at is
        refine ⟨.nx [some (.lst (rows.map knD)), some (asD entD W), some (.bl bk), some (natD k), some (.str r.1), some (wy r.2), some (.str q.1), some (wy q.2), some (wy (if bk then ngw r.2 else r.2)), some (wy (if bk then ngw q.2 else q.2)), some (optD none)], ?_, .inr ⟨rfl, _, rfl, _, _, _, _, _, rfl⟩⟩
        unfold twCC3
        simp only [s_sSeq, s_sNil, s_sRet, s_sRetT, s_sIf, s_sAsg, s_sPar, s_sSetM, s_cND, s_cC, s_cB, s_cU, s_cTup, s_cLst, s_cNil, s_cCons, s_cCall, s_cFn, s_cIx, s_cAnd, s_cOr, s_cNot, s_cIf, s_cTr, s_cBT, s_cAndT, s_cOrT, s_cNotT, s_cCh, s_cChT, s_cSl, s_sFor, s_cWalk, s_cLc, s_lcOne, s_cTrue, s_sApp, s_gN, s_gT, s_gsNil, s_gsCons, s_cV0, s_cVs, s_finR, s_finN, s_boolD, s_truB, s_setAll0, s_setAll1, s_op1, s_op2, s_abs, s_addI, s_subI, eqI, neI, ltI, gtI, leI, geI, mkTup1, mkTup2, mkTup3, idx_t0, idx_t1, idx_t2, obS, omS, List.set_cons_zero, List.set_cons_succ, s_cNone, s_cPart, s_intD, s_cRng1, s_walkL, s_walkT, s_lenT, s_lenL, s_lenS, s_slT, s_slL, if_true, if_false, decide_true, decide_false, Bool.not_true, Bool.not_false, Bool.and_true, Bool.and_false, Bool.true_and, Bool.false_and, Bool.false_eq_true, decide_eq_true_eq, s_cEnum, s_sPut, s_revL, s_revT, s_listL, s_listT, s_tupleL, s_tupleT, s_isDicLst, s_isDicTup, s_isDicInt, wipeE_nil, wipeE_cons, is, Option.isSome]
      | some p =>
        rw [hJ] at is
        refine ⟨_, ?_, .inl ⟨_, rfl, rfl⟩⟩
        unfold twCC3
        simp only [s_sSeq, s_sNil, s_sRet, s_sRetT, s_sIf, s_sAsg, s_sPar, s_sSetM, s_cND, s_cC, s_cB, s_cU, s_cTup, s_cLst, s_cNil, s_cCons, s_cCall, s_cFn, s_cIx, s_cAnd, s_cOr, s_cNot, s_cIf, s_cTr, s_cBT, s_cAndT, s_cOrT, s_cNotT, s_cCh, s_cChT, s_cSl, s_sFor, s_cWalk, s_cLc, s_lcOne, s_cTrue, s_sApp, s_gN, s_gT, s_gsNil, s_gsCons, s_cV0, s_cVs, s_finR, s_finN, s_boolD, s_truB, s_setAll0, s_setAll1, s_op1, s_op2, s_abs, s_addI, s_subI, eqI, neI, ltI, gtI, leI, geI, mkTup1, mkTup2, mkTup3, idx_t0, idx_t1, idx_t2, obS, omS, List.set_cons_zero, List.set_cons_succ, s_cNone, s_cPart, s_intD, s_cRng1, s_walkL, s_walkT, s_lenT, s_lenL, s_lenS, s_slT, s_slL, if_true, if_false, decide_true, decide_false, Bool.not_true, Bool.not_false, Bool.and_true, Bool.and_false, Bool.true_and, Bool.false_and, Bool.false_eq_true, decide_eq_true_eq, s_cEnum, s_sPut, s_revL, s_revT, s_listL, s_listT, s_tupleL, s_tupleT, s_isDicLst, s_isDicTup, s_isDicInt, wipeE_nil, wipeE_cons, is, Option.isSome]
        rfl)
    obtain ⟨r', e1, e2⟩ := row
    have fs : rs.findSome? (fun q => ((J r q).map fun p => (p, r.1, q.1)).map trD) = (row2 J r rs).map trD := by
      exact findSome_map _ _ _
    rw [fs] at e2
    have e3 : twC0 F [some (.lst (rows.map knD)), some (asD entD W), some (.bl bk), some (natD k), some (.str r.1), some (wy r.2), x6, x7, x8, x9, x10] = (some r').bind fun r => match r with | .nx ρ' => sNil F ρ' | .rt b d => some (.rt b d) := by
      unfold twC0
      rw [s_sSeq, s_sFor]
      simp only [s_cWalk, s_cSl, s_cPart, s_cB, s_cVs, s_cV0, s_cC, s_cNone, obS, a1, i1, omS, s_slL, c1, s_walkL]
      rw [e1]
      rfl
    rw [e3]
    rcases e2 with ⟨d, q1, rfl⟩ | ⟨q1, ρ', rfl, y6, y7, y8, y9, y10, rfl⟩
    · exact ⟨_, rfl, .inl ⟨d, q1, rfl⟩⟩
    · exact ⟨_, rfl, .inr ⟨q1, _, rfl, _, _, _, _, _, _, _, _, rfl⟩⟩
  obtain ⟨r, e1, e2⟩ := for_first (asg := gT (gsCons (gN 3) (gsCons (gT (gsCons (gN 4) (gsCons (gN 5) gsNil))) gsNil))) (body := twC0 F) I (fun z : Nat × Rwy × List Rwy => .tup [natD z.1, knD z.2.1]) (fun z => (row2 J z.2.1 z.2.2).map trD) (tails3 0 rows)
    [some (.lst (rows.map knD)), some (asD entD W), some (.bl bk), none, none, none, none, none, none, none, none] ⟨_, _, _, _, _, _, _, _, rfl⟩ (by
    rintro z hz ρ ⟨x3, x4, x5, x6, x7, x8, x9, x10, rfl⟩
    have ga : gT (gsCons (gN 3) (gsCons (gT (gsCons (gN 4) (gsCons (gN 5) gsNil))) gsNil)) (.tup [natD z.1, knD z.2.1]) [some (.lst (rows.map knD)), some (asD entD W), some (.bl bk), x3, x4, x5, x6, x7, x8, x9, x10] = some [some (.lst (rows.map knD)), some (asD entD W), some (.bl bk), some (natD z.1), some (.str z.2.1.1), some (wy z.2.1.2), x6, x7, x8, x9, x10] := rfl
    rw [ga, obS]
    exact inner z hz x6 x7 x8 x9 x10)
  have fs : (tails3 0 rows).findSome? (fun z => (row2 J z.2.1 z.2.2).map trD) = (first2 J rows).map trD := by
    rw [← tails_first J rows 0]
    exact findSome_map _ _ _
  rw [fs] at e2
  rw [tw_eq]
  unfold tw0
  rw [s_sSeq, s_sFor]
  simp only [s_cEnum, s_cV0, obS, s_walkL, omS]
  rw [tails_enum rows 0, e1]
  simp only [obS]
  rcases e2 with ⟨d, q1, rfl⟩ | ⟨q1, ρ', rfl, x3, x4, x5, x6, x7, x8, x9, x10, rfl⟩
  · obtain ⟨p, hp, rfl⟩ := Option.map_eq_some_iff.mp q1
    rw [hp]
    rfl
  · rw [Option.map_eq_none_iff.mp q1]
    unfold tw1
    simp only [s_sSeq, s_sNil, s_sRet, s_sRetT, s_sIf, s_sAsg, s_sPar, s_sSetM, s_cND, s_cC, s_cB, s_cU, s_cTup, s_cLst, s_cNil, s_cCons, s_cCall, s_cFn, s_cIx, s_cAnd, s_cOr, s_cNot, s_cIf, s_cTr, s_cBT, s_cAndT, s_cOrT, s_cNotT, s_cCh, s_cChT, s_cSl, s_sFor, s_cWalk, s_cLc, s_lcOne, s_cTrue, s_sApp, s_gN, s_gT, s_gsNil, s_gsCons, s_cV0, s_cVs, s_finR, s_finN, s_boolD, s_truB, s_setAll0, s_setAll1, s_op1, s_op2, s_abs, s_addI, s_subI, eqI, neI, ltI, gtI, leI, geI, mkTup1, mkTup2, mkTup3, idx_t0, idx_t1, idx_t2, obS, omS, List.set_cons_zero, List.set_cons_succ, s_cNone, s_cPart, s_intD, s_cRng1, s_walkL, s_walkT, s_lenT, s_lenL, s_lenS, s_slT, s_slL, if_true, if_false, decide_true, decide_false, Bool.not_true, Bool.not_false, Bool.and_true, Bool.and_false, Bool.true_and, Bool.false_and, Bool.false_eq_true, decide_eq_true_eq, s_cEnum, s_sPut, s_revL, s_revT, s_listL, s_listT, s_tupleL, s_tupleT, s_isDicLst, s_isDicTup, s_isDicInt, wipeE_nil, wipeE_cons]
    rfl
end L
end
section
open PySem PySem.Spec PyProof.Rows L2 RE
namespace RE
theorem s_cSs (own : List Nat) (fi : SL) (asg : SG) (t : SB) (e : SE) (F : Fn) (ρ : RE.Env) : cSs own fi asg t e F ρ = (fi F ρ).bind fun ds => (lcAll (lcOne asg t e F (wipeE ρ own)) ds).bind setSortL := (rfl)
theorem s_cDc (k : Bool) (own : List Nat) (fi : SL) (asg : SG) (t : SB) (kx vx : SE) (F : Fn) (ρ : RE.Env) : cDc k own fi asg t kx vx F ρ = (fi F ρ).bind fun ds => dcFold (dcOne asg t kx vx F (wipeE ρ own)) (.dic k []) ds := (rfl)
theorem s_dcOne (asg : SG) (t : SB) (kx vx : SE) (F : Fn) (ρ : RE.Env) (d : D) : dcOne asg t kx vx F ρ d = (asg d ρ).bind fun ρ' => (t F ρ').bind fun b => if b then (kx F ρ').bind fun y => (vx F ρ').map fun z => some (y, z) else some none := (rfl)
theorem idx_s0 (s : Sg) : idxD (sgD s) (.int 0) = some (.str s.1) := idx_t0 _ _
theorem idx_s1 (s : Sg) : idxD (sgD s) (.int 1) = some (.str s.2.1) := idx_t1 _ _ _
theorem idx_s2 (s : Sg) : idxD (sgD s) (.int 2) = some (wy s.2.2) := idx_t2 _ _ _ _
theorem eqStr (a b : Str) : eqD (.str a) (.str b) = some (.bl (decide (a = b))) := by
  have : eqv (.str a) (.str b) = decide (a = b) := by
    simp [eqv, toP, PyData.eqv]
    first | done | (by_cases h : a = b <;> simp [h])
  unfold eqD pd2
  rw [show pd 64 (.str a) = true from rfl, show pd 64 (.str b) = true from rfl, this]
  rfl
noncomputable def lookL (S : List Sg) : List Str := srt (S.map (·.1))
noncomputable def markL (S : List Sg) : List Str := srt (S.map (·.2.1))
structure SgOk (S : List Sg) : Prop where
  len : S.length ≤ 100
  nd : (S.map fun s => (s.1, s.2.1)).Nodup
  prim : ∀ s ∈ S, Prim s.2.2
  b1 : ∀ s ∈ S, s.2.2.1.natAbs < 2 ^ 7
  b2 : ∀ s ∈ S, s.2.2.2.natAbs < 2 ^ 7
  dis : ∀ s ∈ S, ∀ s' ∈ S, s.1 ≠ s'.2.1
def rowsM (S : List Sg) (W : Wh) (m : Str) : List Rwy := (S.filter fun s => decide (s.2.1 = m) && (getA W s.1).isSome).map fun s => (s.1, s.2.2)
def rowsL (S : List Sg) (W : Wh) (l : Str) : List Rwy := (S.filter fun s => decide (s.1 = l) && (getA W s.2.1).isSome).map fun s => (s.2.1, s.2.2)
def JW (bk : Bool) (W : Wh) : Jn := fun r q => match getA W r.1, getA W q.1 with
  | some e, some e' => jointR e.x e.y (if bk then ngw r.2 else r.2) e'.x e'.y (if bk then ngw q.2 else q.2)
  | _, _ => none
def vM (S : List Sg) (W : Wh) (m : Str) : Option Tr := if (getA W m).isSome then none else first2 (JW false W) (rowsM S W m)
def vL (S : List Sg) (W : Wh) (l : Str) : Option Tr := if (getA W l).isSome then none else first2 (JW true W) (rowsL S W l)
/-- what is found next -/
noncomputable def allV (S : List Sg) (W : Wh) : List (Str × Option Tr) := ((markL S).map fun m => (m, vM S W m)) ++ (lookL S).map fun l => (l, vL S W l)
def keepV (z : Str × Option Tr) : Option (Str × Tr) := z.2.map fun p => (z.1, p)
noncomputable def nextL (S : List Sg) (W : Wh) : List (Str × Tr) := (allV S W).filterMap keepV
/-- any two points of W are short enough -/
def WhOk (b : Nat) (W : Wh) : Prop := ∀ a c e e', a ≠ c → getA W a = some e → getA W c = some e' → ∃ k m, Pk k e.x e.y ∧ Pk m e'.x e'.y ∧ k + m ≤ b
theorem mem_markL {S : List Sg} {m : Str} : m ∈ markL S ↔ ∃ s ∈ S, s.2.1 = m := by
  unfold markL
  rw [(srt_spec _).2.1, List.mem_map]
theorem mem_lookL {S : List Sg} {l : Str} : l ∈ lookL S ↔ ∃ s ∈ S, s.1 = l := by
  unfold lookL
  rw [(srt_spec _).2.1, List.mem_map]
theorem allV_keys {S : List Sg} (W : Wh) : (allV S W).map (·.1) = markL S ++ lookL S := by
  unfold allV
  rw [List.map_append, List.map_map, List.map_map]
  congr 1
  · exact List.map_id _
  · exact List.map_id _
theorem allV_nd {S : List Sg} (h : SgOk S) (W : Wh) : ((allV S W).map (·.1)).Nodup := by
  rw [allV_keys, List.nodup_append]
  refine ⟨ltT_nodup (srt_spec _).1, ltT_nodup (srt_spec _).1, fun a ha b hb e => ?_⟩
  subst e
  obtain ⟨s, hs, rfl⟩ := mem_markL.mp ha
  obtain ⟨s', hs', e⟩ := mem_lookL.mp hb
  exact h.dis s' hs' s hs e
theorem keep_sub : ∀ V : List (Str × Option Tr), ((V.filterMap keepV).map (·.1)).Sublist (V.map (·.1))
  | [] => List.Sublist.refl _
  | z :: V => by
    cases hz : z.2 with
    | none =>
      rw [List.filterMap_cons_none (by unfold keepV; rw [hz]; rfl), List.map_cons]
      exact (keep_sub V).cons _
    | some p =>
      rw [List.filterMap_cons_some (b := (z.1, p)) (by unfold keepV; rw [hz]; rfl), List.map_cons, List.map_cons]
      exact (keep_sub V).cons₂ _
theorem next_nd {S : List Sg} (h : SgOk S) (W : Wh) : ((nextL S W).map (·.1)).Nodup := (allV_nd h W).sublist (keep_sub _)
theorem allV_len {S : List Sg} (h : SgOk S) (W : Wh) : (allV S W).length ≤ 200 := by
  have := congrArg List.length (allV_keys (S := S) W)
  rw [List.length_map, List.length_append] at this
  have h1 := (srt_spec (S.map (·.1))).2.2.1
  have h2 := (srt_spec (S.map (·.2.1))).2.2.1
  rw [List.length_map] at h1 h2
  have h3 := h.len
  unfold markL lookL at this
  omega
theorem mem_next {S : List Sg} {W : Wh} {z : Str × Tr} (h : z ∈ nextL S W) : (z.1 ∈ markL S ∧ vM S W z.1 = some z.2) ∨ (z.1 ∈ lookL S ∧ vL S W z.1 = some z.2) := by
  unfold nextL at h
  obtain ⟨y, hy, e⟩ := List.mem_filterMap.mp h
  unfold keepV at e
  obtain ⟨p, hp, rfl⟩ := Option.map_eq_some_iff.mp e
  unfold allV at hy
  rcases List.mem_append.mp hy with hy | hy
  · obtain ⟨m, hm, rfl⟩ := List.mem_map.mp hy
    exact .inl ⟨hm, hp⟩
  · obtain ⟨m, hm, rfl⟩ := List.mem_map.mp hy
    exact .inr ⟨hm, hp⟩
theorem next_fresh {S : List Sg} {W : Wh} {z : Str × Tr} (h : z ∈ nextL S W) : getA W z.1 = none := by
  rcases mem_next h with ⟨_, h⟩ | ⟨_, h⟩
  · unfold vM at h
    cases hg : getA W z.1 with
    | none => rfl
    | some e => rw [hg] at h; cases h
  · unfold vL at h
    cases hg : getA W z.1 with
    | none => rfl
    | some e => rw [hg] at h; cases h
/-- rows of one mark: their lookers differ -/
theorem pairs_ne {S : List Sg} (h : SgOk S) : S.Pairwise fun s q => (s.1, s.2.1) ≠ (q.1, q.2.1) := List.pairwise_map.mp h.nd
theorem rowsM_pw {S : List Sg} (h : SgOk S) (W : Wh) (m : Str) : (rowsM S W m).Pairwise fun r q => r.1 ≠ q.1 ∧ (∃ e, getA W r.1 = some e) ∧ (∃ e, getA W q.1 = some e) ∧ (Prim r.2 ∧ Prim q.2) ∧ (r.2.1.natAbs < 2 ^ 7 ∧ r.2.2.natAbs < 2 ^ 7) ∧ q.2.1.natAbs < 2 ^ 7 ∧ q.2.2.natAbs < 2 ^ 7 := by
  unfold rowsM
  rw [List.pairwise_map]
  refine ((pairs_ne h).filter _).imp_of_mem fun {s q} hs hq hne => ?_
  obtain ⟨hs1, hs2⟩ := List.mem_filter.mp hs
  obtain ⟨hq1, hq2⟩ := List.mem_filter.mp hq
  rw [Bool.and_eq_true, decide_eq_true_eq] at hs2 hq2
  refine ⟨fun e => hne (Prod.ext e (hs2.1.trans hq2.1.symm)), Option.isSome_iff_exists.mp hs2.2, Option.isSome_iff_exists.mp hq2.2, ⟨h.prim s hs1, h.prim q hq1⟩, ⟨h.b1 s hs1, h.b2 s hs1⟩, h.b1 q hq1, h.b2 q hq1⟩
theorem rowsL_pw {S : List Sg} (h : SgOk S) (W : Wh) (l : Str) : (rowsL S W l).Pairwise fun r q => r.1 ≠ q.1 ∧ (∃ e, getA W r.1 = some e) ∧ (∃ e, getA W q.1 = some e) ∧ (Prim r.2 ∧ Prim q.2) ∧ (r.2.1.natAbs < 2 ^ 7 ∧ r.2.2.natAbs < 2 ^ 7) ∧ q.2.1.natAbs < 2 ^ 7 ∧ q.2.2.natAbs < 2 ^ 7 := by
  unfold rowsL
  rw [List.pairwise_map]
  refine ((pairs_ne h).filter _).imp_of_mem fun {s q} hs hq hne => ?_
  obtain ⟨hs1, hs2⟩ := List.mem_filter.mp hs
  obtain ⟨hq1, hq2⟩ := List.mem_filter.mp hq
  rw [Bool.and_eq_true, decide_eq_true_eq] at hs2 hq2
  refine ⟨fun e => hne (Prod.ext (hs2.1.trans hq2.1.symm) e), Option.isSome_iff_exists.mp hs2.2, Option.isSome_iff_exists.mp hq2.2, ⟨h.prim s hs1, h.prim q hq1⟩, ⟨h.b1 s hs1, h.b2 s hs1⟩, h.b1 q hq1, h.b2 q hq1⟩
theorem rowsM_len {S : List Sg} (h : SgOk S) (W : Wh) (m : Str) : (rowsM S W m).length ≤ 100 := by
  unfold rowsM
  rw [List.length_map]
  exact Nat.le_trans (List.length_filter_le _ _) h.len
theorem rowsL_len {S : List Sg} (h : SgOk S) (W : Wh) (m : Str) : (rowsL S W m).length ≤ 100 := by
  unfold rowsL
  rw [List.length_map]
  exact Nat.le_trans (List.length_filter_le _ _) h.len
end RE
namespace L
theorem lookers_of_ev (n : Nat) {S : List Sg} (h : S.length ≤ 900) : lvl (DT rows) (n + 1) "lookers_of" [.tup (S.map sgD)] = some (.lst ((lookL S).map .str)) := by
  rw [v_lookers_of]
  generalize lvl (DT rows) n = F
  have L1 : lcAll (lcOne (gN 1) cTrue (cIx (cV 1) (cC (.int 0))) F [some (.tup (S.map sgD)), none]) (S.map sgD) = some (S.map fun s => D.str s.1) := lc_map fun s _ => by
    have := idx_s0 s
    simp only [s_sSeq, s_sNil, s_sRet, s_sRetT, s_sIf, s_sAsg, s_sPar, s_sSetM, s_cND, s_cC, s_cB, s_cU, s_cTup, s_cLst, s_cNil, s_cCons, s_cCall, s_cFn, s_cIx, s_cAnd, s_cOr, s_cNot, s_cIf, s_cTr, s_cBT, s_cAndT, s_cOrT, s_cNotT, s_cCh, s_cChT, s_cSl, s_sFor, s_cWalk, s_cLc, s_lcOne, s_cTrue, s_sApp, s_gN, s_gT, s_gsNil, s_gsCons, s_cV0, s_cVs, s_finR, s_finN, s_boolD, s_truB, s_setAll0, s_setAll1, s_op1, s_op2, s_abs, s_addI, s_subI, eqI, neI, ltI, gtI, leI, geI, mkTup1, mkTup2, mkTup3, idx_t0, idx_t1, idx_t2, obS, omS, List.set_cons_zero, List.set_cons_succ, s_cNone, s_cPart, s_intD, s_cRng1, s_walkL, s_walkT, s_lenT, s_lenL, s_lenS, s_slT, s_slL, if_true, if_false, decide_true, decide_false, Bool.not_true, Bool.not_false, Bool.and_true, Bool.and_false, Bool.true_and, Bool.false_and, Bool.false_eq_true, decide_eq_true_eq, s_cEnum, s_sPut, s_revL, s_revT, s_listL, s_listT, s_tupleL, s_tupleT, s_isDicLst, s_isDicTup, s_isDicInt, wipeE_nil, wipeE_cons, this]
  have e : (S.map fun s => D.str s.1) = (S.map (·.1)).map .str := by rw [List.map_map]; rfl
  have st := setSort_strs (ss := S.map (·.1)) (by rw [List.length_map]; exact h)
  unfold b_lookers_of
  rw [s_sSeq, s_sRet, s_cSs]
  simp only [s_cWalk, s_cV0, obS, s_walkT, wipeE_cons, wipeE_nil, List.set_cons_succ, List.set_cons_zero]
  rw [L1, obS, e, st]
  rfl
theorem marks_of_ev (n : Nat) {S : List Sg} (h : S.length ≤ 900) : lvl (DT rows) (n + 1) "marks_of" [.tup (S.map sgD)] = some (.lst ((markL S).map .str)) := by
  rw [v_marks_of]
  generalize lvl (DT rows) n = F
  have L1 : lcAll (lcOne (gN 1) cTrue (cIx (cV 1) (cC (.int 1))) F [some (.tup (S.map sgD)), none]) (S.map sgD) = some (S.map fun s => D.str s.2.1) := lc_map fun s _ => by
    have := idx_s1 s
    simp only [s_sSeq, s_sNil, s_sRet, s_sRetT, s_sIf, s_sAsg, s_sPar, s_sSetM, s_cND, s_cC, s_cB, s_cU, s_cTup, s_cLst, s_cNil, s_cCons, s_cCall, s_cFn, s_cIx, s_cAnd, s_cOr, s_cNot, s_cIf, s_cTr, s_cBT, s_cAndT, s_cOrT, s_cNotT, s_cCh, s_cChT, s_cSl, s_sFor, s_cWalk, s_cLc, s_lcOne, s_cTrue, s_sApp, s_gN, s_gT, s_gsNil, s_gsCons, s_cV0, s_cVs, s_finR, s_finN, s_boolD, s_truB, s_setAll0, s_setAll1, s_op1, s_op2, s_abs, s_addI, s_subI, eqI, neI, ltI, gtI, leI, geI, mkTup1, mkTup2, mkTup3, idx_t0, idx_t1, idx_t2, obS, omS, List.set_cons_zero, List.set_cons_succ, s_cNone, s_cPart, s_intD, s_cRng1, s_walkL, s_walkT, s_lenT, s_lenL, s_lenS, s_slT, s_slL, if_true, if_false, decide_true, decide_false, Bool.not_true, Bool.not_false, Bool.and_true, Bool.and_false, Bool.true_and, Bool.false_and, Bool.false_eq_true, decide_eq_true_eq, s_cEnum, s_sPut, s_revL, s_revT, s_listL, s_listT, s_tupleL, s_tupleT, s_isDicLst, s_isDicTup, s_isDicInt, wipeE_nil, wipeE_cons, this]
  have e : (S.map fun s => D.str s.2.1) = (S.map (·.2.1)).map .str := by rw [List.map_map]; rfl
  have st := setSort_strs (ss := S.map (·.2.1)) (by rw [List.length_map]; exact h)
  unfold b_marks_of
  rw [s_sSeq, s_sRet, s_cSs]
  simp only [s_cWalk, s_cV0, obS, s_walkT, wipeE_cons, wipeE_nil, List.set_cons_succ, List.set_cons_zero]
  rw [L1, obS, e, st]
  rfl
/-- the two looks of the program -/
theorem twoM_ev (n : Nat) {S : List Sg} (h : SgOk S) {W : Wh} (hw : WhOk 2200 W) (m : Str) : lvl (DT rows) (n + 8) "first_two" [.lst ((rowsM S W m).map knD), asD entD W, .fn "meet"] = some (optT (first2 (JW false W) (rowsM S W m))) := by
  rw [v_first_two, first_two_ev (lvl (DT rows) (n + 7)) (rowsM S W m) (rowsM_len h W m) W "meet" (.inl rfl) (JW false W) ((rowsM_pw h W m).imp fun {r q} ⟨ne, ⟨e, g1⟩, ⟨e', g2⟩, ⟨p1, p2⟩, ⟨a1, a2⟩, b1, b2⟩ => ?_)]
  · rfl
  · obtain ⟨k, l, k1, k2, hk⟩ := hw r.1 q.1 e e' ne g1 g2
    refine ⟨e, e', g1, g2, ?_⟩
    have := meet_ev (n + 1) p1 p2 k1 k2 a1 a2 b1 b2 (by decide) (by decide) (by omega)
    rw [this]
    unfold JW
    rw [g1, g2]
    rfl
theorem twoL_ev (n : Nat) {S : List Sg} (h : SgOk S) {W : Wh} (hw : WhOk 2200 W) (m : Str) : lvl (DT rows) (n + 8) "first_two" [.lst ((rowsL S W m).map knD), asD entD W, .fn "stand"] = some (optT (first2 (JW true W) (rowsL S W m))) := by
  rw [v_first_two, first_two_ev (lvl (DT rows) (n + 7)) (rowsL S W m) (rowsL_len h W m) W "stand" (.inr rfl) (JW true W) ((rowsL_pw h W m).imp fun {r q} ⟨ne, ⟨e, g1⟩, ⟨e', g2⟩, ⟨p1, p2⟩, ⟨a1, a2⟩, b1, b2⟩ => ?_)]
  · rfl
  · obtain ⟨k, l, k1, k2, hk⟩ := hw r.1 q.1 e e' ne g1 g2
    refine ⟨e, e', g1, g2, ?_⟩
    have := stand_ev n p1 p2 k1 k2 a1 a2 b1 b2 (by decide) (by decide) (by omega)
    rw [this]
    unfold JW
    rw [g1, g2]
    rfl
theorem next_found_ev (n : Nat) {S : List Sg} (h : SgOk S) {W : Wh} (hw : WhOk 2200 W) : lvl (DT rows) (n + 9) "next_found" [.tup (S.map sgD), asD entD W] = some (asD trD (nextL S W)) := by
  have fm := marks_of_ev (n + 7) (S := S) (by have := h.len; omega)
  have fl := lookers_of_ev (n + 7) (S := S) (by have := h.len; omega)
  have t1 := twoM_ev n h hw
  have t2 := twoL_ev n h hw
  rw [v_next_found]
  generalize lvl (DT rows) (n + 8) = F at *
  generalize hS : D.tup (S.map sgD) = SD at *
  have wS : walkL SD = some (S.map sgD) := by rw [← hS]; rfl
  have nd := allV_nd h W
  have lV := allV_len h W
  have loopM : ∀ (l : List Str) (V : List (Str × Option Tr)) (x3 x4 x5 x6 x7 x8 x9 : Option D), ((V ++ l.map fun m => (m, vM S W m)).map (·.1)).Nodup → (V ++ l.map fun m => (m, vM S W m)).length ≤ 200 → ∃ y3 y4 y5 y6 y7 y8 y9, forD (gN 3) (nfC0 F) (l.map .str) [some SD, some (asD entD W), some (asD optT V), x3, x4, x5, x6, x7, x8, x9] = some (.nx [some SD, some (asD entD W), some (asD optT (V ++ l.map fun m => (m, vM S W m))), y3, y4, y5, y6, y7, y8, y9]) := by
    intro l
    induction l with
    | nil => intro V x3 x4 x5 x6 x7 x8 x9 _ _; exact ⟨x3, x4, x5, x6, x7, x8, x9, by simp [forD]⟩
    | cons m l ih =>
      intro V x3 x4 x5 x6 x7 x8 x9 nd hl
      have hV : getA V m = none := getA_none.mpr fun hm => by
        rw [List.map_append, List.map_cons, List.map_cons] at nd
        exact (List.nodup_append.mp nd).2.2 _ hm _ List.mem_cons_self rfl
      have lc : lcAll (lcOne (gT (gsCons (gN 5) (gsCons (gN 6) (gsCons (gN 7) (gsNil))))) (cAndT (cBT eqD (cV 6) (cV 3)) (cBT inD (cV 5) (cV 1))) (cTup (cCons (cV 5) (cCons (cV 7) (cNil)))) F [some SD, some (asD entD W), some (asD optT V), some (.str m), x4, none, none, none, x8, x9]) (S.map sgD) = some ((rowsM S W m).map knD) := by
        unfold rowsM
        rw [List.map_map]
        refine lc_filter fun s _ => ?_
        have ga : gT (gsCons (gN 5) (gsCons (gN 6) (gsCons (gN 7) gsNil))) (sgD s) [some SD, some (asD entD W), some (asD optT V), some (.str m), x4, none, none, none, x8, x9] = some [some SD, some (asD entD W), some (asD optT V), some (.str m), x4, some (.str s.1), some (.str s.2.1), some (wy s.2.2), x8, x9] := rfl
        have i1 := eqStr s.2.1 m
        have i2 := in_as entD W s.1
        rw [s_lcOne, ga]
        generalize asD entD W = WD at *
        generalize asD optT V = VD at *
        generalize decide (s.2.1 = m) = b1 at *
        generalize (getA W s.1).isSome = b2 at *
        cases b1 <;> cases b2 <;> (simp only [s_sSeq, s_sNil, s_sRet, s_sRetT, s_sIf, s_sAsg, s_sPar, s_sSetM, s_cND, s_cC, s_cB, s_cU, s_cTup, s_cLst, s_cNil, s_cCons, s_cCall, s_cFn, s_cIx, s_cAnd, s_cOr, s_cNot, s_cIf, s_cTr, s_cBT, s_cAndT, s_cOrT, s_cNotT, s_cCh, s_cChT, s_cSl, s_sFor, s_cWalk, s_cLc, s_lcOne, s_cTrue, s_sApp, s_gN, s_gT, s_gsNil, s_gsCons, s_cV0, s_cVs, s_finR, s_finN, s_boolD, s_truB, s_setAll0, s_setAll1, s_op1, s_op2, s_abs, s_addI, s_subI, eqI, neI, ltI, gtI, leI, geI, mkTup1, mkTup2, mkTup3, idx_t0, idx_t1, idx_t2, obS, omS, List.set_cons_zero, List.set_cons_succ, s_cNone, s_cPart, s_intD, s_cRng1, s_walkL, s_walkT, s_lenT, s_lenL, s_lenS, s_slT, s_slL, if_true, if_false, decide_true, decide_false, Bool.not_true, Bool.not_false, Bool.and_true, Bool.and_false, Bool.true_and, Bool.false_and, Bool.false_eq_true, decide_eq_true_eq, s_cEnum, s_sPut, s_revL, s_revT, s_listL, s_listT, s_tupleL, s_tupleT, s_isDicLst, s_isDicTup, s_isDicInt, wipeE_nil, wipeE_cons, i1, i2]; try rfl)
      have mk := mkLst_ev (ds := (rowsM S W m).map knD) (by rw [List.length_map]; have := rowsM_len h W m; omega)
      have ni := notin_as entD W m
      have tm := t1 m
      have hl' : V.length ≤ 100000 := by rw [List.length_append] at hl; omega
      have pt := put_as optT hV hl' (vM S W m)
      have step : nfC0 F [some SD, some (asD entD W), some (asD optT V), some (.str m), x4, x5, x6, x7, x8, x9] = some (.nx [some SD, some (asD entD W), some (asD optT (V ++ [(m, vM S W m)])), some (.str m), some (.lst ((rowsM S W m).map knD)), x5, x6, x7, x8, x9]) := by
        unfold nfC0
        rw [s_sSeq, s_sAsg, s_cLc]
        simp only [s_cWalk, s_cV0, obS, wS, wipeE_cons, wipeE_nil, List.set_cons_succ, List.set_cons_zero]
        rw [lc]
        simp only [obS, mk, s_gN, omS, List.set_cons_succ, List.set_cons_zero]
        generalize D.lst ((rowsM S W m).map knD) = RW at *
        generalize asD optT (V ++ [(m, vM S W m)]) = V2 at *
        generalize asD entD W = WD at *
        generalize asD optT V = VD at *
        unfold vM at pt
        unfold nfC1
        cases hg : (getA W m).isSome with
        | true =>
          rw [hg] at pt ni
          simp only [if_true] at pt
          have pt : putD VD (.str m) .non = some V2 := pt
          simp only [s_sSeq, s_sNil, s_sRet, s_sRetT, s_sIf, s_sAsg, s_sPar, s_sSetM, s_cND, s_cC, s_cB, s_cU, s_cTup, s_cLst, s_cNil, s_cCons, s_cCall, s_cFn, s_cIx, s_cAnd, s_cOr, s_cNot, s_cIf, s_cTr, s_cBT, s_cAndT, s_cOrT, s_cNotT, s_cCh, s_cChT, s_cSl, s_sFor, s_cWalk, s_cLc, s_lcOne, s_cTrue, s_sApp, s_gN, s_gT, s_gsNil, s_gsCons, s_cV0, s_cVs, s_finR, s_finN, s_boolD, s_truB, s_setAll0, s_setAll1, s_op1, s_op2, s_abs, s_addI, s_subI, eqI, neI, ltI, gtI, leI, geI, mkTup1, mkTup2, mkTup3, idx_t0, idx_t1, idx_t2, obS, omS, List.set_cons_zero, List.set_cons_succ, s_cNone, s_cPart, s_intD, s_cRng1, s_walkL, s_walkT, s_lenT, s_lenL, s_lenS, s_slT, s_slL, if_true, if_false, decide_true, decide_false, Bool.not_true, Bool.not_false, Bool.and_true, Bool.and_false, Bool.true_and, Bool.false_and, Bool.false_eq_true, decide_eq_true_eq, s_cEnum, s_sPut, s_revL, s_revT, s_listL, s_listT, s_tupleL, s_tupleT, s_isDicLst, s_isDicTup, s_isDicInt, wipeE_nil, wipeE_cons, ni, pt]
        | false =>
          rw [hg] at pt ni
          simp only [Bool.false_eq_true, if_false] at pt
          simp only [s_sSeq, s_sNil, s_sRet, s_sRetT, s_sIf, s_sAsg, s_sPar, s_sSetM, s_cND, s_cC, s_cB, s_cU, s_cTup, s_cLst, s_cNil, s_cCons, s_cCall, s_cFn, s_cIx, s_cAnd, s_cOr, s_cNot, s_cIf, s_cTr, s_cBT, s_cAndT, s_cOrT, s_cNotT, s_cCh, s_cChT, s_cSl, s_sFor, s_cWalk, s_cLc, s_lcOne, s_cTrue, s_sApp, s_gN, s_gT, s_gsNil, s_gsCons, s_cV0, s_cVs, s_finR, s_finN, s_boolD, s_truB, s_setAll0, s_setAll1, s_op1, s_op2, s_abs, s_addI, s_subI, eqI, neI, ltI, gtI, leI, geI, mkTup1, mkTup2, mkTup3, idx_t0, idx_t1, idx_t2, obS, omS, List.set_cons_zero, List.set_cons_succ, s_cNone, s_cPart, s_intD, s_cRng1, s_walkL, s_walkT, s_lenT, s_lenL, s_lenS, s_slT, s_slL, if_true, if_false, decide_true, decide_false, Bool.not_true, Bool.not_false, Bool.and_true, Bool.and_false, Bool.true_and, Bool.false_and, Bool.false_eq_true, decide_eq_true_eq, s_cEnum, s_sPut, s_revL, s_revT, s_listL, s_listT, s_tupleL, s_tupleT, s_isDicLst, s_isDicTup, s_isDicInt, wipeE_nil, wipeE_cons, ni, tm, pt]
      obtain ⟨y3, y4, y5, y6, y7, y8, y9, e⟩ := ih (V ++ [(m, vM S W m)]) (some (.str m)) (some (.lst ((rowsM S W m).map knD))) x5 x6 x7 x8 x9 (by rw [List.append_assoc]; exact nd) (by rw [List.append_assoc]; exact hl)
      refine ⟨y3, y4, y5, y6, y7, y8, y9, ?_⟩
      rw [List.map_cons, forD, s_gN, obS]
      simp only [List.set_cons_succ, List.set_cons_zero]
      rw [step]
      simp only [obS]
      rw [e, List.append_assoc]
      rfl
  have loopL : ∀ (l : List Str) (V : List (Str × Option Tr)) (x3 x4 x5 x6 x7 x8 x9 : Option D), ((V ++ l.map fun m => (m, vL S W m)).map (·.1)).Nodup → (V ++ l.map fun m => (m, vL S W m)).length ≤ 200 → ∃ y3 y4 y5 y6 y7 y8 y9, forD (gN 5) (nfD0 F) (l.map .str) [some SD, some (asD entD W), some (asD optT V), x3, x4, x5, x6, x7, x8, x9] = some (.nx [some SD, some (asD entD W), some (asD optT (V ++ l.map fun m => (m, vL S W m))), y3, y4, y5, y6, y7, y8, y9]) := by
    intro l
    induction l with
    | nil => intro V x3 x4 x5 x6 x7 x8 x9 _ _; exact ⟨x3, x4, x5, x6, x7, x8, x9, by simp [forD]⟩
    | cons m l ih =>
      intro V x3 x4 x5 x6 x7 x8 x9 nd hl
      have hV : getA V m = none := getA_none.mpr fun hm => by
        rw [List.map_append, List.map_cons, List.map_cons] at nd
        exact (List.nodup_append.mp nd).2.2 _ hm _ List.mem_cons_self rfl
      have lc : lcAll (lcOne (gT (gsCons (gN 6) (gsCons (gN 3) (gsCons (gN 7) (gsNil))))) (cAndT (cBT eqD (cV 6) (cV 5)) (cBT inD (cV 3) (cV 1))) (cTup (cCons (cV 3) (cCons (cV 7) (cNil)))) F [some SD, some (asD entD W), some (asD optT V), none, x4, some (.str m), none, none, x8, x9]) (S.map sgD) = some ((rowsL S W m).map knD) := by
        unfold rowsL
        rw [List.map_map]
        refine lc_filter fun s _ => ?_
        have ga : gT (gsCons (gN 6) (gsCons (gN 3) (gsCons (gN 7) gsNil))) (sgD s) [some SD, some (asD entD W), some (asD optT V), none, x4, some (.str m), none, none, x8, x9] = some [some SD, some (asD entD W), some (asD optT V), some (.str s.2.1), x4, some (.str m), some (.str s.1), some (wy s.2.2), x8, x9] := rfl
        have i1 := eqStr s.1 m
        have i2 := in_as entD W s.2.1
        rw [s_lcOne, ga]
        generalize asD entD W = WD at *
        generalize asD optT V = VD at *
        generalize decide (s.1 = m) = b1 at *
        generalize (getA W s.2.1).isSome = b2 at *
        cases b1 <;> cases b2 <;> (simp only [s_sSeq, s_sNil, s_sRet, s_sRetT, s_sIf, s_sAsg, s_sPar, s_sSetM, s_cND, s_cC, s_cB, s_cU, s_cTup, s_cLst, s_cNil, s_cCons, s_cCall, s_cFn, s_cIx, s_cAnd, s_cOr, s_cNot, s_cIf, s_cTr, s_cBT, s_cAndT, s_cOrT, s_cNotT, s_cCh, s_cChT, s_cSl, s_sFor, s_cWalk, s_cLc, s_lcOne, s_cTrue, s_sApp, s_gN, s_gT, s_gsNil, s_gsCons, s_cV0, s_cVs, s_finR, s_finN, s_boolD, s_truB, s_setAll0, s_setAll1, s_op1, s_op2, s_abs, s_addI, s_subI, eqI, neI, ltI, gtI, leI, geI, mkTup1, mkTup2, mkTup3, idx_t0, idx_t1, idx_t2, obS, omS, List.set_cons_zero, List.set_cons_succ, s_cNone, s_cPart, s_intD, s_cRng1, s_walkL, s_walkT, s_lenT, s_lenL, s_lenS, s_slT, s_slL, if_true, if_false, decide_true, decide_false, Bool.not_true, Bool.not_false, Bool.and_true, Bool.and_false, Bool.true_and, Bool.false_and, Bool.false_eq_true, decide_eq_true_eq, s_cEnum, s_sPut, s_revL, s_revT, s_listL, s_listT, s_tupleL, s_tupleT, s_isDicLst, s_isDicTup, s_isDicInt, wipeE_nil, wipeE_cons, i1, i2]; try rfl)
      have mk := mkLst_ev (ds := (rowsL S W m).map knD) (by rw [List.length_map]; have := rowsL_len h W m; omega)
      have ni := notin_as entD W m
      have tm := t2 m
      have hl' : V.length ≤ 100000 := by rw [List.length_append] at hl; omega
      have pt := put_as optT hV hl' (vL S W m)
      have step : nfD0 F [some SD, some (asD entD W), some (asD optT V), x3, x4, some (.str m), x6, x7, x8, x9] = some (.nx [some SD, some (asD entD W), some (asD optT (V ++ [(m, vL S W m)])), x3, some (.lst ((rowsL S W m).map knD)), some (.str m), x6, x7, x8, x9]) := by
        unfold nfD0
        rw [s_sSeq, s_sAsg, s_cLc]
        simp only [s_cWalk, s_cV0, obS, wS, wipeE_cons, wipeE_nil, List.set_cons_succ, List.set_cons_zero]
        rw [lc]
        simp only [obS, mk, s_gN, omS, List.set_cons_succ, List.set_cons_zero]
        generalize D.lst ((rowsL S W m).map knD) = RW at *
        generalize asD optT (V ++ [(m, vL S W m)]) = V2 at *
        generalize asD entD W = WD at *
        generalize asD optT V = VD at *
        unfold vL at pt
        unfold nfD1
        cases hg : (getA W m).isSome with
        | true =>
          rw [hg] at pt ni
          simp only [if_true] at pt
          have pt : putD VD (.str m) .non = some V2 := pt
          simp only [s_sSeq, s_sNil, s_sRet, s_sRetT, s_sIf, s_sAsg, s_sPar, s_sSetM, s_cND, s_cC, s_cB, s_cU, s_cTup, s_cLst, s_cNil, s_cCons, s_cCall, s_cFn, s_cIx, s_cAnd, s_cOr, s_cNot, s_cIf, s_cTr, s_cBT, s_cAndT, s_cOrT, s_cNotT, s_cCh, s_cChT, s_cSl, s_sFor, s_cWalk, s_cLc, s_lcOne, s_cTrue, s_sApp, s_gN, s_gT, s_gsNil, s_gsCons, s_cV0, s_cVs, s_finR, s_finN, s_boolD, s_truB, s_setAll0, s_setAll1, s_op1, s_op2, s_abs, s_addI, s_subI, eqI, neI, ltI, gtI, leI, geI, mkTup1, mkTup2, mkTup3, idx_t0, idx_t1, idx_t2, obS, omS, List.set_cons_zero, List.set_cons_succ, s_cNone, s_cPart, s_intD, s_cRng1, s_walkL, s_walkT, s_lenT, s_lenL, s_lenS, s_slT, s_slL, if_true, if_false, decide_true, decide_false, Bool.not_true, Bool.not_false, Bool.and_true, Bool.and_false, Bool.true_and, Bool.false_and, Bool.false_eq_true, decide_eq_true_eq, s_cEnum, s_sPut, s_revL, s_revT, s_listL, s_listT, s_tupleL, s_tupleT, s_isDicLst, s_isDicTup, s_isDicInt, wipeE_nil, wipeE_cons, ni, pt]
        | false =>
          rw [hg] at pt ni
          simp only [Bool.false_eq_true, if_false] at pt
          simp only [s_sSeq, s_sNil, s_sRet, s_sRetT, s_sIf, s_sAsg, s_sPar, s_sSetM, s_cND, s_cC, s_cB, s_cU, s_cTup, s_cLst, s_cNil, s_cCons, s_cCall, s_cFn, s_cIx, s_cAnd, s_cOr, s_cNot, s_cIf, s_cTr, s_cBT, s_cAndT, s_cOrT, s_cNotT, s_cCh, s_cChT, s_cSl, s_sFor, s_cWalk, s_cLc, s_lcOne, s_cTrue, s_sApp, s_gN, s_gT, s_gsNil, s_gsCons, s_cV0, s_cVs, s_finR, s_finN, s_boolD, s_truB, s_setAll0, s_setAll1, s_op1, s_op2, s_abs, s_addI, s_subI, eqI, neI, ltI, gtI, leI, geI, mkTup1, mkTup2, mkTup3, idx_t0, idx_t1, idx_t2, obS, omS, List.set_cons_zero, List.set_cons_succ, s_cNone, s_cPart, s_intD, s_cRng1, s_walkL, s_walkT, s_lenT, s_lenL, s_lenS, s_slT, s_slL, if_true, if_false, decide_true, decide_false, Bool.not_true, Bool.not_false, Bool.and_true, Bool.and_false, Bool.true_and, Bool.false_and, Bool.false_eq_true, decide_eq_true_eq, s_cEnum, s_sPut, s_revL, s_revT, s_listL, s_listT, s_tupleL, s_tupleT, s_isDicLst, s_isDicTup, s_isDicInt, wipeE_nil, wipeE_cons, ni, tm, pt]
      obtain ⟨y3, y4, y5, y6, y7, y8, y9, e⟩ := ih (V ++ [(m, vL S W m)]) x3 (some (.lst ((rowsL S W m).map knD))) (some (.str m)) x6 x7 x8 x9 (by rw [List.append_assoc]; exact nd) (by rw [List.append_assoc]; exact hl)
      refine ⟨y3, y4, y5, y6, y7, y8, y9, ?_⟩
      rw [List.map_cons, forD, s_gN, obS]
      simp only [List.set_cons_succ, List.set_cons_zero]
      rw [step]
      simp only [obS]
      rw [e, List.append_assoc]
      rfl
  have ndM : ((([] : List (Str × Option Tr)) ++ (markL S).map fun m => (m, vM S W m)).map fun z : Str × Option Tr => z.1).Nodup := by
    unfold allV at nd
    rw [List.map_append] at nd
    exact (List.nodup_append.mp nd).1
  obtain ⟨y3, y4, y5, y6, y7, y8, y9, e1⟩ := loopM (markL S) [] none none none none none none none ndM (by unfold allV at lV; rw [List.length_append] at lV; rw [List.nil_append]; omega)
  rw [List.nil_append] at e1
  obtain ⟨z3, z4, z5, z6, z7, z8, z9, e2⟩ := loopL (lookL S) ((markL S).map fun m => (m, vM S W m)) y3 y4 y5 y6 y7 y8 y9 nd lV
  have e2 : forD (gN 5) (nfD0 F) ((lookL S).map .str) [some SD, some (asD entD W), some (asD optT ((markL S).map fun m => (m, vM S W m))), y3, y4, y5, y6, y7, y8, y9] = some (.nx [some SD, some (asD entD W), some (asD optT (allV S W)), z3, z4, z5, z6, z7, z8, z9]) := e2
  have it := items_as optT (allV S W) 2 F [some SD, some (asD entD W), some (asD optT (allV S W)), z3, z4, z5, z6, z7, z8, z9] rfl
  have dc := dc_as (one := dcOne (gT (gsCons (gN 8) (gsCons (gN 9) gsNil))) (cBT isntD (cV 9) (cC .non)) (cV 8) (cV 9) F [some SD, some (asD entD W), some (asD optT (allV S W)), z3, z4, z5, z6, z7, none, none]) (g := fun z : Str × Option Tr => D.tup [.str z.1, optT z.2]) (f := trD) (h := keepV) (M := allV S W) (L := []) (fun z _ => by
    have ga : gT (gsCons (gN 8) (gsCons (gN 9) gsNil)) (.tup [.str z.1, optT z.2]) [some SD, some (asD entD W), some (asD optT (allV S W)), z3, z4, z5, z6, z7, none, none] = some [some SD, some (asD entD W), some (asD optT (allV S W)), z3, z4, z5, z6, z7, some (.str z.1), some (optT z.2)] := rfl
    have is := isnt_optT z.2
    rw [s_dcOne, ga]
    generalize asD entD W = WD at *
    generalize asD optT (allV S W) = VD at *
    unfold keepV
    cases hz : z.2 with
    | none =>
      rw [hz] at is
      simp only [s_sSeq, s_sNil, s_sRet, s_sRetT, s_sIf, s_sAsg, s_sPar, s_sSetM, s_cND, s_cC, s_cB, s_cU, s_cTup, s_cLst, s_cNil, s_cCons, s_cCall, s_cFn, s_cIx, s_cAnd, s_cOr, s_cNot, s_cIf, s_cTr, s_cBT, s_cAndT, s_cOrT, s_cNotT, s_cCh, s_cChT, s_cSl, s_sFor, s_cWalk, s_cLc, s_lcOne, s_cTrue, s_sApp, s_gN, s_gT, s_gsNil, s_gsCons, s_cV0, s_cVs, s_finR, s_finN, s_boolD, s_truB, s_setAll0, s_setAll1, s_op1, s_op2, s_abs, s_addI, s_subI, eqI, neI, ltI, gtI, leI, geI, mkTup1, mkTup2, mkTup3, idx_t0, idx_t1, idx_t2, obS, omS, List.set_cons_zero, List.set_cons_succ, s_cNone, s_cPart, s_intD, s_cRng1, s_walkL, s_walkT, s_lenT, s_lenL, s_lenS, s_slT, s_slL, if_true, if_false, decide_true, decide_false, Bool.not_true, Bool.not_false, Bool.and_true, Bool.and_false, Bool.true_and, Bool.false_and, Bool.false_eq_true, decide_eq_true_eq, s_cEnum, s_sPut, s_revL, s_revT, s_listL, s_listT, s_tupleL, s_tupleT, s_isDicLst, s_isDicTup, s_isDicInt, wipeE_nil, wipeE_cons, is, Option.isSome]
      rfl
    | some p =>
      rw [hz] at is
      simp only [s_sSeq, s_sNil, s_sRet, s_sRetT, s_sIf, s_sAsg, s_sPar, s_sSetM, s_cND, s_cC, s_cB, s_cU, s_cTup, s_cLst, s_cNil, s_cCons, s_cCall, s_cFn, s_cIx, s_cAnd, s_cOr, s_cNot, s_cIf, s_cTr, s_cBT, s_cAndT, s_cOrT, s_cNotT, s_cCh, s_cChT, s_cSl, s_sFor, s_cWalk, s_cLc, s_lcOne, s_cTrue, s_sApp, s_gN, s_gT, s_gsNil, s_gsCons, s_cV0, s_cVs, s_finR, s_finN, s_boolD, s_truB, s_setAll0, s_setAll1, s_op1, s_op2, s_abs, s_addI, s_subI, eqI, neI, ltI, gtI, leI, geI, mkTup1, mkTup2, mkTup3, idx_t0, idx_t1, idx_t2, obS, omS, List.set_cons_zero, List.set_cons_succ, s_cNone, s_cPart, s_intD, s_cRng1, s_walkL, s_walkT, s_lenT, s_lenL, s_lenS, s_slT, s_slL, if_true, if_false, decide_true, decide_false, Bool.not_true, Bool.not_false, Bool.and_true, Bool.and_false, Bool.true_and, Bool.false_and, Bool.false_eq_true, decide_eq_true_eq, s_cEnum, s_sPut, s_revL, s_revT, s_listL, s_listT, s_tupleL, s_tupleT, s_isDicLst, s_isDicTup, s_isDicInt, wipeE_nil, wipeE_cons, is, Option.isSome]
      rfl) (by rw [List.nil_append]; exact next_nd h W) (by
    rw [List.nil_append]
    have := (keep_sub (allV S W)).length_le
    rw [List.length_map, List.length_map] at this
    omega)
  rw [List.nil_append] at dc
  rw [nf_eq]
  unfold nf0
  simp only [s_sSeq, s_sSetM, s_cC, omS, obS, List.set_cons_succ, List.set_cons_zero]
  unfold nf1
  rw [s_sSeq, s_sFor]
  simp only [s_cWalk, s_cFn, s_cCons, s_cV0, s_cNil, obS, fm, s_walkL]
  have e1 : forD (gN 3) (nfC0 F) ((markL S).map .str) [some SD, some (asD entD W), some (.dic false []), none, none, none, none, none, none, none] = _ := e1
  rw [e1]
  simp only [obS]
  unfold nf2
  rw [s_sSeq, s_sFor]
  simp only [s_cWalk, s_cFn, s_cCons, s_cV0, s_cNil, obS, fl, s_walkL]
  rw [e2]
  simp only [obS]
  unfold nf3
  rw [s_sSeq, s_sRet, s_cDc, it, obS]
  simp only [wipeE_cons, wipeE_nil, List.set_cons_succ, List.set_cons_zero]
  have dc : dcFold _ (.dic false []) _ = _ := dc
  rw [dc]
  rfl
end L
end
section
open PySem PySem.Spec PyProof.Rows L2 RE
namespace RE
theorem nodup_le {α : Type} [DecidableEq α] : ∀ (l d : List α), l.Nodup → (∀ x ∈ l, x ∈ d) → l.length ≤ d.length
  | [], _, _, _ => Nat.zero_le _
  | x :: l, d, hn, hs => by
    obtain ⟨h1, h2⟩ := List.nodup_cons.mp hn
    have hx : x ∈ d := hs x List.mem_cons_self
    have ih := nodup_le l (d.erase x) h2 fun y hy => (List.mem_erase_of_ne (by intro e; subst e; exact h1 hy)).2 (hs y (List.mem_cons_of_mem _ hy))
    have e := List.length_erase_of_mem hx
    have hp := List.length_pos_of_mem hx
    rw [List.length_cons]
    omega
theorem fm_some {α β : Type} (h : α → β) : ∀ l : List α, l.filterMap (fun a => some (h a)) = l.map h
  | [] => rfl
  | a :: l => by rw [List.filterMap_cons, List.map_cons, fm_some h l]
/-- how long a point may be, by the order in which it is found -/
def gI : Nat → Nat
  | 0 => 7
  | 1 => 7
  | n + 2 => gI n + gI (n + 1) + 17
theorem gI_step (n : Nat) : gI (n + 2) = gI n + gI (n + 1) + 17 := rfl
theorem gI_mono1 : ∀ n, gI n ≤ gI (n + 1)
  | 0 => Nat.le_refl _
  | n + 1 => by rw [gI_step]; omega
theorem gI_mono {i j : Nat} (h : i ≤ j) : gI i ≤ gI j := by
  induction h with
  | refl => exact Nat.le_refl _
  | step _ ih => exact Nat.le_trans ih (gI_mono1 _)
theorem gI_two {i j n : Nat} (h : i ≠ j) (hi : i < n) (hj : j < n) : gI i + gI j + 17 ≤ gI n := by
  match n, hi, hj with
  | 0, hi, _ => omega
  | 1, hi, hj => omega
  | n + 2, hi, hj =>
    rw [gI_step]
    have : gI i + gI j ≤ gI n + gI (n + 1) := by
      rcases Nat.lt_or_gt_of_ne h with h | h
      · have := gI_mono (show i ≤ n by omega)
        have := gI_mono (show j ≤ n + 1 by omega)
        omega
      · have := gI_mono (show j ≤ n by omega)
        have := gI_mono (show i ≤ n + 1 by omega)
        omega
    omega
/-- what is found so far -/
structure Inv (N : List Str) (W : Wh) : Prop where
  nd : (W.map (·.1)).Nodup
  sub : ∀ z ∈ W, z.1 ∈ N
  N10 : N.length ≤ 10
  pk : ∀ i (h : i < W.length), Pk (gI i) W[i].2.x W[i].2.y
theorem Inv.len {N : List Str} {W : Wh} (h : Inv N W) : W.length ≤ 10 := by
  have := nodup_le (W.map (·.1)) N h.nd fun x hx => by
    obtain ⟨z, hz, rfl⟩ := List.mem_map.mp hx
    exact h.sub z hz
  rw [List.length_map] at this
  exact Nat.le_trans this h.N10
theorem getA_at {W : Wh} {a : Str} {e : Ent} (h : getA W a = some e) : ∃ i, ∃ (hi : i < W.length), W[i] = (a, e) := List.getElem_of_mem (getA_mem h)
theorem Inv.two {N : List Str} {W : Wh} (h : Inv N W) {a c : Str} {e e' : Ent} (ne : a ≠ c) (g : getA W a = some e) (g' : getA W c = some e') : ∃ k m, Pk k e.x e.y ∧ Pk m e'.x e'.y ∧ k + m + 17 ≤ gI W.length := by
  obtain ⟨i, hi, e1⟩ := getA_at g
  obtain ⟨j, hj, e2⟩ := getA_at g'
  have p1 := h.pk i hi
  have p2 := h.pk j hj
  rw [e1] at p1
  rw [e2] at p2
  refine ⟨_, _, p1, p2, gI_two (fun z => ?_) hi hj⟩
  subst z
  rw [e1] at e2
  exact ne (congrArg Prod.fst e2)
theorem gI10 : gI 10 = 2119 := by decide
theorem Inv.ok {N : List Str} {W : Wh} (h : Inv N W) : WhOk 2200 W := fun a c e e' ne g g' => by
  obtain ⟨k, m, p1, p2, hk⟩ := h.two ne g g'
  have := gI_mono h.len
  rw [gI10] at this
  exact ⟨k, m, p1, p2, by omega⟩
theorem first2_some {J : Jn} {P : Rwy → Rwy → Prop} : ∀ {rows : List Rwy} {x : Tr}, rows.Pairwise P → first2 J rows = some x → ∃ r q, r ∈ rows ∧ q ∈ rows ∧ P r q ∧ J r q = some x.1 ∧ x.2 = (r.1, q.1)
  | [], _, _, h => by cases h
  | r :: rs, x, hp, h => by
    obtain ⟨h1, h2⟩ := List.pairwise_cons.mp hp
    rw [first2] at h
    cases hr : row2 J r rs with
    | some y =>
      rw [hr] at h
      cases h
      unfold row2 at hr
      obtain ⟨q, hq, e⟩ := List.exists_of_findSome?_eq_some hr
      obtain ⟨p, hp, rfl⟩ := Option.map_eq_some_iff.mp e
      exact ⟨r, q, List.mem_cons_self, List.mem_cons_of_mem _ hq, h1 q hq, hp, rfl⟩
    | none =>
      rw [hr] at h
      obtain ⟨r', q, hr', hq, h3, h4, h5⟩ := first2_some h2 h
      exact ⟨r', q, List.mem_cons_of_mem _ hr', List.mem_cons_of_mem _ hq, h3, h4, h5⟩
/-- a newly found point: by two found ones of unlike names -/
theorem next_by {S : List Sg} (h : SgOk S) {W : Wh} {z : Str × Tr} (hz : z ∈ nextL S W) : ∃ a c e e' w v, a ≠ c ∧ getA W a = some e ∧ getA W c = some e' ∧ w.1.natAbs < 2 ^ 7 ∧ w.2.natAbs < 2 ^ 7 ∧ v.1.natAbs < 2 ^ 7 ∧ v.2.natAbs < 2 ^ 7 ∧ jointR e.x e.y w e'.x e'.y v = some z.2.1 ∧ z.2.2 = (a, c) := by
  have ng : ∀ w : Int × Int, w.1.natAbs < 2 ^ 7 → w.2.natAbs < 2 ^ 7 → (ngw w).1.natAbs < 2 ^ 7 ∧ (ngw w).2.natAbs < 2 ^ 7 := fun w h1 h2 => ⟨by unfold ngw; simpa using h1, by unfold ngw; simpa using h2⟩
  rcases mem_next hz with ⟨_, hv⟩ | ⟨_, hv⟩
  · unfold vM at hv
    split at hv
    · cases hv
    · obtain ⟨r, q, _, _, ⟨ne, ⟨e, g1⟩, ⟨e', g2⟩, _, ⟨a1, a2⟩, b1, b2⟩, hj, h2⟩ := first2_some (rowsM_pw h W z.1) hv
      unfold JW at hj
      rw [g1, g2] at hj
      exact ⟨r.1, q.1, e, e', r.2, q.2, ne, g1, g2, a1, a2, b1, b2, hj, h2⟩
  · unfold vL at hv
    split at hv
    · cases hv
    · obtain ⟨r, q, _, _, ⟨ne, ⟨e, g1⟩, ⟨e', g2⟩, _, ⟨a1, a2⟩, b1, b2⟩, hj, h2⟩ := first2_some (rowsL_pw h W z.1) hv
      unfold JW at hj
      rw [g1, g2] at hj
      exact ⟨r.1, q.1, e, e', ngw r.2, ngw q.2, ne, g1, g2, (ng _ a1 a2).1, (ng _ a1 a2).2, (ng _ b1 b2).1, (ng _ b1 b2).2, hj, h2⟩
def tagE (t : Nat) (p : Tr) : Ent := ⟨p.1.1, p.1.2, t, some p.2⟩
def tagL (t : Nat) (M : List (Str × Tr)) : Wh := M.map fun z => (z.1, tagE t z.2)
noncomputable def runW (S : List Sg) : Nat → Nat → Wh → Wh
  | 0, _, W => W
  | f + 1, t, W => if nextL S W = [] then W else runW S f (t + 1) (W ++ tagL t (nextL S W))
def knE (k : Rwy) : Str × Ent := (k.1, ⟨(k.2.1 : Rat), (k.2.2 : Rat), 0, none⟩)
/-- all that is found -/
noncomputable def finW (K : List Rwy) (S : List Sg) : Wh := runW S 11 1 (K.map knE)
structure SvOk (K : List Rwy) (S : List Sg) (N : List Str) : Prop where
  sg : SgOk S
  nd : (K.map (·.1)).Nodup
  k1 : ∀ k ∈ K, k.2.1.natAbs < 2 ^ 7
  k2 : ∀ k ∈ K, k.2.2.natAbs < 2 ^ 7
  n1 : ∀ k ∈ K, k.1 ∈ N
  n2 : ∀ s ∈ S, s.1 ∈ N
  n3 : ∀ s ∈ S, s.2.1 ∈ N
  n10 : N.length ≤ 10
theorem tag_keys (t : Nat) (M : List (Str × Tr)) : (tagL t M).map (·.1) = M.map (·.1) := by
  unfold tagL
  rw [List.map_map]; rfl
theorem kn_keys (K : List Rwy) : (K.map knE).map (·.1) = K.map (·.1) := by rw [List.map_map]; rfl
theorem inv_0 {K : List Rwy} {S : List Sg} {N : List Str} (h : SvOk K S N) : Inv N (K.map knE) := by
  refine ⟨by rw [kn_keys]; exact h.nd, fun z hz => ?_, h.n10, fun i hi => ?_⟩
  · obtain ⟨k, hk, rfl⟩ := List.mem_map.mp hz
    exact h.n1 k hk
  · rw [List.length_map] at hi
    rw [List.getElem_map]
    exact (Pk.int (k := 7) (by decide) (h.k1 _ (List.getElem_mem hi)) (h.k2 _ (List.getElem_mem hi))).le (gI_mono (Nat.zero_le i))
theorem next_names {K : List Rwy} {S : List Sg} {N : List Str} (h : SvOk K S N) {W : Wh} {z : Str × Tr} (hz : z ∈ nextL S W) : z.1 ∈ N := by
  rcases mem_next hz with ⟨hm, _⟩ | ⟨hm, _⟩
  · obtain ⟨s, hs, e⟩ := mem_markL.mp hm
    rw [← e]; exact h.n3 s hs
  · obtain ⟨s, hs, e⟩ := mem_lookL.mp hm
    rw [← e]; exact h.n2 s hs
theorem inv_next {K : List Rwy} {S : List Sg} {N : List Str} (h : SvOk K S N) {W : Wh} (t : Nat) (I : Inv N W) : Inv N (W ++ tagL t (nextL S W)) := by
  refine ⟨?_, fun z hz => ?_, h.n10, fun i hi => ?_⟩
  · rw [List.map_append, tag_keys, List.nodup_append]
    refine ⟨I.nd, next_nd h.sg W, fun a ha b hb e => ?_⟩
    subst e
    obtain ⟨z, hz, rfl⟩ := List.mem_map.mp hb
    exact getA_none.mp (next_fresh hz) ha
  · rcases List.mem_append.mp hz with hz | hz
    · exact I.sub z hz
    · unfold tagL at hz
      obtain ⟨y, hy, rfl⟩ := List.mem_map.mp hz
      exact next_names h hy
  · by_cases hlt : i < W.length
    · rw [List.getElem_append_left hlt]
      exact I.pk i hlt
    · rw [List.getElem_append_right (by omega)]
      unfold tagL at hi ⊢
      rw [List.length_append, List.length_map] at hi
      rw [List.getElem_map]
      have hz := List.getElem_mem (l := nextL S W) (n := i - W.length) (by omega)
      obtain ⟨a, c, e, e', w, v, ne, g1, g2, a1, a2, b1, b2, hj, _⟩ := next_by h.sg hz
      obtain ⟨k, m, p1, p2, hk⟩ := I.two ne g1 g2
      have := jointR_Pk p1 p2 a1 a2 b1 b2 hj
      exact this.le (Nat.le_trans (by omega) (gI_mono (show W.length ≤ i by omega)))
theorem run_inv {K : List Rwy} {S : List Sg} {N : List Str} (h : SvOk K S N) : ∀ (f t : Nat) {W : Wh}, Inv N W → Inv N (runW S f t W)
  | 0, t, W, I => I
  | f + 1, t, W, I => by
    unfold runW
    split
    · exact I
    · exact run_inv h f (t + 1) (inv_next h t I)
theorem fin_inv {K : List Rwy} {S : List Sg} {N : List Str} (h : SvOk K S N) : Inv N (finW K S) := run_inv h _ _ (inv_0 h)
theorem s_sUpd (i : Nat) (f : SE) (F : Fn) (ρ : RE.Env) : sUpd i f F ρ = (f F ρ).bind fun y => (cV i F ρ).bind fun x => (updD x y).map fun d => .nx (ρ.set i (some d)) := (rfl)
theorem s_sAug (i : Nat) (f : SE) (F : Fn) (ρ : RE.Env) : sAug i f F ρ = (cV i F ρ).bind fun d => (f F ρ).bind fun e => match d, e with
  | .int m, .int n => some (.nx (ρ.set i (some (.int (m + n)))))
  | _, _ => none := (rfl)
theorem kn_idx0 (k : Rwy) : idxD (knD k) (.int 0) = some (.str k.1) := idx_t0 _ _
theorem tr_idx0 (p : Tr) : idxD (trD p) (.int 0) = some (pt p.1.1 p.1.2) := idx_t0 _ _
theorem tr_cut (p : Tr) : slcD (some 1) none (trD p) = some (.tup [.str p.2.1, .str p.2.2]) := by
  unfold trD
  rw [s_slT]
  have := cut_from [pt p.1.1 p.1.2, D.str p.2.1, D.str p.2.2] 1
  rw [show ((1 : Nat) : Int) = 1 from rfl] at this
  rw [this]
  rfl
theorem ent_cut (e : Ent) : slcD none (some 2) (entD e) = some (.tup [pt e.x e.y, natD e.t]) := by
  unfold entD
  rw [s_slT]
  have := cut_to [pt e.x e.y, natD e.t, twoD e.two] 2
  rw [show ((2 : Nat) : Int) = 2 from rfl] at this
  rw [this]
  rfl
/-- told rows: name, point, round -/
def locD (z : Str × Ent) : D := .tup [.str z.1, pt z.2.x z.2.y, natD z.2.t]
noncomputable def ordW (W : Wh) : List (Str × Ent) := (srt (W.map (·.1))).filterMap fun n => (getA W n).map fun e => (n, e)
end RE
namespace L
theorem whole_ev (n : Nat) (w : Int × Int) : lvl (DT rows) (n + 1) "whole" [wy w] = some (pt (w.1 : Rat) (w.2 : Rat)) := by
  rw [v_whole]
  simp only [s_sSeq, s_sNil, s_sRet, s_sRetT, s_sIf, s_sAsg, s_sPar, s_sSetM, s_cND, s_cC, s_cB, s_cU, s_cTup, s_cLst, s_cNil, s_cCons, s_cCall, s_cFn, s_cIx, s_cAnd, s_cOr, s_cNot, s_cIf, s_cTr, s_cBT, s_cAndT, s_cOrT, s_cNotT, s_cCh, s_cChT, s_cSl, s_sFor, s_cWalk, s_cLc, s_lcOne, s_cTrue, s_sApp, s_gN, s_gT, s_gsNil, s_gsCons, s_cV0, s_cVs, s_finR, s_finN, s_boolD, s_truB, s_setAll0, s_setAll1, s_op1, s_op2, s_abs, s_addI, s_subI, eqI, neI, ltI, gtI, leI, geI, mkTup1, mkTup2, mkTup3, idx_t0, idx_t1, idx_t2, obS, omS, List.set_cons_zero, List.set_cons_succ, s_cNone, s_cPart, s_intD, s_cRng1, s_walkL, s_walkT, s_lenT, s_lenL, s_lenS, s_slT, s_slL, if_true, if_false, decide_true, decide_false, Bool.not_true, Bool.not_false, Bool.and_true, Bool.and_false, Bool.true_and, Bool.false_and, Bool.false_eq_true, decide_eq_true_eq, s_cEnum, s_sPut, s_revL, s_revT, s_listL, s_listT, s_tupleL, s_tupleT, s_isDicLst, s_isDicTup, s_isDicInt, wipeE_nil, wipeE_cons, b_whole, idx_w0, idx_w1, rt_int, pt_eq]
theorem all_found_ev (n : Nat) {K : List Rwy} {S : List Sg} {N : List Str} (h : SvOk K S N) : lvl (DT rows) (n + 10) "all_found" [svD K S] = some (asD entD (finW K S)) := by
  have fn : ∀ W, Inv N W → lvl (DT rows) (n + 9) "next_found" [.tup (S.map sgD), asD entD W] = some (asD trD (nextL S W)) := fun W I => next_found_ev n h.sg I.ok
  have fw : ∀ w, lvl (DT rows) (n + 9) "whole" [wy w] = some (pt (w.1 : Rat) (w.2 : Rat)) := fun w => whole_ev (n + 8) w
  rw [v_all_found, af_eq]
  generalize lvl (DT rows) (n + 9) = F at *
  unfold finW
  have I0 := inv_0 h
  generalize hK : D.tup (K.map knD) = KD at *
  generalize hS : D.tup (S.map sgD) = SD at *
  have wK : walkL KD = some (K.map knD) := by rw [← hK]; rfl
  have loop : ∀ (f t : Nat) (W : Wh) (x6 x7 x8 : Option D), Inv N W → 11 ≤ f + W.length → ∃ m y4 y5 y6 y7 y8, whileD (cBT neD (cV 4) (cC (.dic false [])) F) (afC0 F) m [some (svD K S), some KD, some SD, some (asD entD W), some (asD trD (nextL S W)), some (natD t), x6, x7, x8] = some (.nx [some (svD K S), some KD, some SD, some (asD entD (runW S f t W)), y4, y5, y6, y7, y8]) := by
    intro f
    induction f with
    | zero =>
      intro t W x6 x7 x8 I hl
      have := I.len
      omega
    | succ f ih =>
      intro t W x6 x7 x8 I hl
      have ne := ne_as trD (nextL S W)
      by_cases hN : nextL S W = []
      · refine ⟨1, some (asD trD (nextL S W)), some (natD t), x6, x7, x8, ?_⟩
        have e : runW S (f + 1) t W = W := by unfold runW; rw [if_pos hN]
        rw [e, whileD]
        rw [hN] at ne ⊢
        generalize asD entD W = WD at *
        generalize asD trD [] = TD at *
        simp only [s_sSeq, s_sNil, s_sRet, s_sRetT, s_sIf, s_sAsg, s_sPar, s_sSetM, s_cND, s_cC, s_cB, s_cU, s_cTup, s_cLst, s_cNil, s_cCons, s_cCall, s_cFn, s_cIx, s_cAnd, s_cOr, s_cNot, s_cIf, s_cTr, s_cBT, s_cAndT, s_cOrT, s_cNotT, s_cCh, s_cChT, s_cSl, s_sFor, s_cWalk, s_cLc, s_lcOne, s_cTrue, s_sApp, s_gN, s_gT, s_gsNil, s_gsCons, s_cV0, s_cVs, s_finR, s_finN, s_boolD, s_truB, s_setAll0, s_setAll1, s_op1, s_op2, s_abs, s_addI, s_subI, eqI, neI, ltI, gtI, leI, geI, mkTup1, mkTup2, mkTup3, idx_t0, idx_t1, idx_t2, obS, omS, List.set_cons_zero, List.set_cons_succ, s_cNone, s_cPart, s_intD, s_cRng1, s_walkL, s_walkT, s_lenT, s_lenL, s_lenS, s_slT, s_slL, if_true, if_false, decide_true, decide_false, Bool.not_true, Bool.not_false, Bool.and_true, Bool.and_false, Bool.true_and, Bool.false_and, Bool.false_eq_true, decide_eq_true_eq, s_cEnum, s_sPut, s_revL, s_revT, s_listL, s_listT, s_tupleL, s_tupleT, s_isDicLst, s_isDicTup, s_isDicInt, wipeE_nil, wipeE_cons, ne, List.isEmpty]
      · have e : runW S (f + 1) t W = runW S f (t + 1) (W ++ tagL t (nextL S W)) := by
          conv => lhs; unfold runW
          rw [if_neg hN]
        have I2 := inv_next h t I
        have fn2 := fn _ I2
        have hlen : 1 ≤ (tagL t (nextL S W)).length := by
          unfold tagL
          rw [List.length_map]
          exact List.length_pos_iff.mpr hN
        obtain ⟨m, y4, y5, y6, y7, y8, em⟩ := ih (t + 1) (W ++ tagL t (nextL S W)) x6 x7 x8 I2 (by rw [List.length_append]; omega)
        refine ⟨m + 1, y4, y5, y6, y7, y8, ?_⟩
        rw [e, whileD]
        have cnd : cBT neD (cV 4) (cC (.dic false [])) F [some (svD K S), some KD, some SD, some (asD entD W), some (asD trD (nextL S W)), some (natD t), x6, x7, x8] = some true := by
          have : (nextL S W).isEmpty = false := by
            cases hq : nextL S W with
            | nil => exact absurd hq hN
            | cons _ _ => rfl
          rw [this] at ne
          generalize asD trD (nextL S W) = TD at *
          simp only [s_sSeq, s_sNil, s_sRet, s_sRetT, s_sIf, s_sAsg, s_sPar, s_sSetM, s_cND, s_cC, s_cB, s_cU, s_cTup, s_cLst, s_cNil, s_cCons, s_cCall, s_cFn, s_cIx, s_cAnd, s_cOr, s_cNot, s_cIf, s_cTr, s_cBT, s_cAndT, s_cOrT, s_cNotT, s_cCh, s_cChT, s_cSl, s_sFor, s_cWalk, s_cLc, s_lcOne, s_cTrue, s_sApp, s_gN, s_gT, s_gsNil, s_gsCons, s_cV0, s_cVs, s_finR, s_finN, s_boolD, s_truB, s_setAll0, s_setAll1, s_op1, s_op2, s_abs, s_addI, s_subI, eqI, neI, ltI, gtI, leI, geI, mkTup1, mkTup2, mkTup3, idx_t0, idx_t1, idx_t2, obS, omS, List.set_cons_zero, List.set_cons_succ, s_cNone, s_cPart, s_intD, s_cRng1, s_walkL, s_walkT, s_lenT, s_lenL, s_lenS, s_slT, s_slL, if_true, if_false, decide_true, decide_false, Bool.not_true, Bool.not_false, Bool.and_true, Bool.and_false, Bool.true_and, Bool.false_and, Bool.false_eq_true, decide_eq_true_eq, s_cEnum, s_sPut, s_revL, s_revT, s_listL, s_listT, s_tupleL, s_tupleT, s_isDicLst, s_isDicTup, s_isDicInt, wipeE_nil, wipeE_cons, ne]
        rw [cnd]
        simp only [obS, if_true]
        have it := items_as trD (nextL S W) 4 F [some (svD K S), some KD, some SD, some (asD entD W), some (asD trD (nextL S W)), some (natD t), x6, x7, x8] rfl
        have dc := dc_as (one := dcOne (gT (gsCons (gN 6) (gsCons (gN 8) gsNil))) cTrue (cV 6) (cTup (cCons (cIx (cV 8) (cC (.int 0))) (cCons (cV 5) (cCons (cSl (cV 8) (cPart (cC (.int 1))) (cNone)) (cNil))))) F [some (svD K S), some KD, some SD, some (asD entD W), some (asD trD (nextL S W)), some (natD t), none, x7, none]) (g := fun z : Str × Tr => D.tup [.str z.1, trD z.2]) (f := entD) (h := fun z => some (z.1, tagE t z.2)) (M := nextL S W) (L := []) (fun z _ => by
          have ga : gT (gsCons (gN 6) (gsCons (gN 8) gsNil)) (.tup [.str z.1, trD z.2]) [some (svD K S), some KD, some SD, some (asD entD W), some (asD trD (nextL S W)), some (natD t), none, x7, none] = some [some (svD K S), some KD, some SD, some (asD entD W), some (asD trD (nextL S W)), some (natD t), some (.str z.1), x7, some (trD z.2)] := rfl
          have i1 := tr_idx0 z.2
          have i2 := tr_cut z.2
          have i3 : RE.intD (.int 1) = some 1 := rfl
          have em : D.tup [pt z.2.1.1 z.2.1.2, natD t, .tup [.str z.2.2.1, .str z.2.2.2]] = entD (tagE t z.2) := rfl
          rw [s_dcOne, ga]
          generalize asD entD W = WD at *
          generalize asD trD (nextL S W) = TD at *
          simp only [s_sSeq, s_sNil, s_sRet, s_sRetT, s_sIf, s_sAsg, s_sPar, s_sSetM, s_cND, s_cC, s_cB, s_cU, s_cTup, s_cLst, s_cNil, s_cCons, s_cCall, s_cFn, s_cIx, s_cAnd, s_cOr, s_cNot, s_cIf, s_cTr, s_cBT, s_cAndT, s_cOrT, s_cNotT, s_cCh, s_cChT, s_cSl, s_sFor, s_cWalk, s_cLc, s_lcOne, s_cTrue, s_sApp, s_gN, s_gT, s_gsNil, s_gsCons, s_cV0, s_cVs, s_finR, s_finN, s_boolD, s_truB, s_setAll0, s_setAll1, s_op1, s_op2, s_abs, s_addI, s_subI, eqI, neI, ltI, gtI, leI, geI, mkTup1, mkTup2, mkTup3, idx_t0, idx_t1, idx_t2, obS, omS, List.set_cons_zero, List.set_cons_succ, s_cNone, s_cPart, s_intD, s_cRng1, s_walkL, s_walkT, s_lenT, s_lenL, s_lenS, s_slT, s_slL, if_true, if_false, decide_true, decide_false, Bool.not_true, Bool.not_false, Bool.and_true, Bool.and_false, Bool.true_and, Bool.false_and, Bool.false_eq_true, decide_eq_true_eq, s_cEnum, s_sPut, s_revL, s_revT, s_listL, s_listT, s_tupleL, s_tupleT, s_isDicLst, s_isDicTup, s_isDicInt, wipeE_nil, wipeE_cons, i1, i2, i3, em]) (by
          rw [List.nil_append, fm_some]
          have := tag_keys t (nextL S W)
          unfold tagL at this
          show ((((nextL S W).map fun z => (z.1, tagE t z.2))).map (·.1)).Nodup
          rw [this]
          exact next_nd h.sg W) (by
          rw [List.nil_append, fm_some]
          have q := I2.len
          rw [List.length_append] at q
          unfold tagL at q
          rw [List.length_map] at q ⊢
          omega)
        rw [List.nil_append, fm_some] at dc
        have dc : dcFold _ (.dic false []) _ = some (asD entD (tagL t (nextL S W))) := dc
        have up := upd_as entD (L := W) (M := tagL t (nextL S W)) I2.nd (by have := I2.len; omega)
        have st : afC0 F [some (svD K S), some KD, some SD, some (asD entD W), some (asD trD (nextL S W)), some (natD t), x6, x7, x8] = some (.nx [some (svD K S), some KD, some SD, some (asD entD (W ++ tagL t (nextL S W))), some (asD trD (nextL S (W ++ tagL t (nextL S W)))), some (natD (t + 1)), x6, x7, x8]) := by
          unfold afC0
          rw [s_sSeq, s_sUpd, s_cDc, it, obS]
          simp only [wipeE_cons, wipeE_nil, List.set_cons_succ, List.set_cons_zero]
          rw [dc]
          simp only [obS, s_cVs, s_cV0, up, omS, List.set_cons_succ, List.set_cons_zero]
          generalize asD entD (W ++ tagL t (nextL S W)) = W2 at *
          generalize asD trD (nextL S W) = TD at *
          generalize asD trD (nextL S (W ++ tagL t (nextL S W))) = T2 at *
          unfold afC1
          simp only [s_sSeq, s_sNil, s_sRet, s_sRetT, s_sIf, s_sAsg, s_sPar, s_sSetM, s_cND, s_cC, s_cB, s_cU, s_cTup, s_cLst, s_cNil, s_cCons, s_cCall, s_cFn, s_cIx, s_cAnd, s_cOr, s_cNot, s_cIf, s_cTr, s_cBT, s_cAndT, s_cOrT, s_cNotT, s_cCh, s_cChT, s_cSl, s_sFor, s_cWalk, s_cLc, s_lcOne, s_cTrue, s_sApp, s_gN, s_gT, s_gsNil, s_gsCons, s_cV0, s_cVs, s_finR, s_finN, s_boolD, s_truB, s_setAll0, s_setAll1, s_op1, s_op2, s_abs, s_addI, s_subI, eqI, neI, ltI, gtI, leI, geI, mkTup1, mkTup2, mkTup3, idx_t0, idx_t1, idx_t2, obS, omS, List.set_cons_zero, List.set_cons_succ, s_cNone, s_cPart, s_intD, s_cRng1, s_walkL, s_walkT, s_lenT, s_lenL, s_lenS, s_slT, s_slL, if_true, if_false, decide_true, decide_false, Bool.not_true, Bool.not_false, Bool.and_true, Bool.and_false, Bool.true_and, Bool.false_and, Bool.false_eq_true, decide_eq_true_eq, s_cEnum, s_sPut, s_revL, s_revT, s_listL, s_listT, s_tupleL, s_tupleT, s_isDicLst, s_isDicTup, s_isDicInt, wipeE_nil, wipeE_cons, fn2]
          unfold afC2
          rw [s_sSeq, s_sAug]
          simp only [s_cVs, s_cV0, obS, s_cC]
          rfl
        rw [st]
        simp only [obS]
        exact em
  have dcK := dc_as (one := dcOne (gT (gsCons (gN 6) (gsCons (gN 7) gsNil))) cTrue (cV 6) (cTup (cCons (cFn "whole" (cCons (cV 7) (cNil))) (cCons (cC (.int 0)) (cCons (cC (.non)) (cNil))))) F [some (svD K S), some KD, some SD, none, none, none, none, none, none]) (g := knD) (f := entD) (h := fun k => some (knE k)) (M := K) (L := []) (fun k _ => by
    have ga : gT (gsCons (gN 6) (gsCons (gN 7) gsNil)) (knD k) [some (svD K S), some KD, some SD, none, none, none, none, none, none] = some [some (svD K S), some KD, some SD, none, none, none, some (.str k.1), some (wy k.2), none] := rfl
    have f := fw k.2
    have em : D.tup [pt (k.2.1 : Rat) (k.2.2 : Rat), .int 0, .non] = entD (knE k).2 := rfl
    rw [s_dcOne, ga]
    generalize wy k.2 = W1 at *
    simp only [s_sSeq, s_sNil, s_sRet, s_sRetT, s_sIf, s_sAsg, s_sPar, s_sSetM, s_cND, s_cC, s_cB, s_cU, s_cTup, s_cLst, s_cNil, s_cCons, s_cCall, s_cFn, s_cIx, s_cAnd, s_cOr, s_cNot, s_cIf, s_cTr, s_cBT, s_cAndT, s_cOrT, s_cNotT, s_cCh, s_cChT, s_cSl, s_sFor, s_cWalk, s_cLc, s_lcOne, s_cTrue, s_sApp, s_gN, s_gT, s_gsNil, s_gsCons, s_cV0, s_cVs, s_finR, s_finN, s_boolD, s_truB, s_setAll0, s_setAll1, s_op1, s_op2, s_abs, s_addI, s_subI, eqI, neI, ltI, gtI, leI, geI, mkTup1, mkTup2, mkTup3, idx_t0, idx_t1, idx_t2, obS, omS, List.set_cons_zero, List.set_cons_succ, s_cNone, s_cPart, s_intD, s_cRng1, s_walkL, s_walkT, s_lenT, s_lenL, s_lenS, s_slT, s_slL, if_true, if_false, decide_true, decide_false, Bool.not_true, Bool.not_false, Bool.and_true, Bool.and_false, Bool.true_and, Bool.false_and, Bool.false_eq_true, decide_eq_true_eq, s_cEnum, s_sPut, s_revL, s_revT, s_listL, s_listT, s_tupleL, s_tupleT, s_isDicLst, s_isDicTup, s_isDicInt, wipeE_nil, wipeE_cons, f, em]
    rfl) (by rw [List.nil_append, fm_some]; exact I0.nd) (by
    rw [List.nil_append, fm_some]
    have := I0.len
    have e : (K.map knE).length = (K.map fun k => knE k).length := rfl
    show (K.map knE).length ≤ _
    omega)
  rw [List.nil_append, fm_some] at dcK
  have dcK : dcFold _ (.dic false []) _ = some (asD entD (K.map knE)) := dcK
  obtain ⟨m, y4, y5, y6, y7, y8, em⟩ := loop 11 1 (K.map knE) none none none I0 (by omega)
  have fn0 := fn _ I0
  have ga : gT (gsCons (gN 1) (gsCons (gN 2) gsNil)) (svD K S) [some (svD K S), none, none, none, none, none, none, none, none] = some [some (svD K S), some KD, some SD, none, none, none, none, none, none] := by
    rw [← hK, ← hS]; rfl
  have em := sWhile_of em
  unfold af0
  rw [s_sSeq, s_sAsg, s_cV0, obS, ga, omS]
  simp only [obS]
  unfold af1
  rw [s_sSeq, s_sSetM, s_cDc]
  simp only [s_cWalk, s_cVs, s_cV0, obS, wK, wipeE_cons, wipeE_nil, List.set_cons_succ, List.set_cons_zero]
  rw [dcK]
  simp only [omS, obS, List.set_cons_succ, List.set_cons_zero]
  generalize asD entD (K.map knE) = WD at *
  generalize asD trD (nextL S (K.map knE)) = TD at *
  generalize asD entD (runW S 11 1 (K.map knE)) = FD at *
  unfold af2
  simp only [s_sSeq, s_sNil, s_sRet, s_sRetT, s_sIf, s_sAsg, s_sPar, s_sSetM, s_cND, s_cC, s_cB, s_cU, s_cTup, s_cLst, s_cNil, s_cCons, s_cCall, s_cFn, s_cIx, s_cAnd, s_cOr, s_cNot, s_cIf, s_cTr, s_cBT, s_cAndT, s_cOrT, s_cNotT, s_cCh, s_cChT, s_cSl, s_sFor, s_cWalk, s_cLc, s_lcOne, s_cTrue, s_sApp, s_gN, s_gT, s_gsNil, s_gsCons, s_cV0, s_cVs, s_finR, s_finN, s_boolD, s_truB, s_setAll0, s_setAll1, s_op1, s_op2, s_abs, s_addI, s_subI, eqI, neI, ltI, gtI, leI, geI, mkTup1, mkTup2, mkTup3, idx_t0, idx_t1, idx_t2, obS, omS, List.set_cons_zero, List.set_cons_succ, s_cNone, s_cPart, s_intD, s_cRng1, s_walkL, s_walkT, s_lenT, s_lenL, s_lenS, s_slT, s_slL, if_true, if_false, decide_true, decide_false, Bool.not_true, Bool.not_false, Bool.and_true, Bool.and_false, Bool.true_and, Bool.false_and, Bool.false_eq_true, decide_eq_true_eq, s_cEnum, s_sPut, s_revL, s_revT, s_listL, s_listT, s_tupleL, s_tupleT, s_isDicLst, s_isDicTup, s_isDicInt, wipeE_nil, wipeE_cons, fn0]
  unfold af3
  simp only [s_sSeq, s_sNil, s_sRet, s_sRetT, s_sIf, s_sAsg, s_sPar, s_sSetM, s_cND, s_cC, s_cB, s_cU, s_cTup, s_cLst, s_cNil, s_cCons, s_cCall, s_cFn, s_cIx, s_cAnd, s_cOr, s_cNot, s_cIf, s_cTr, s_cBT, s_cAndT, s_cOrT, s_cNotT, s_cCh, s_cChT, s_cSl, s_sFor, s_cWalk, s_cLc, s_lcOne, s_cTrue, s_sApp, s_gN, s_gT, s_gsNil, s_gsCons, s_cV0, s_cVs, s_finR, s_finN, s_boolD, s_truB, s_setAll0, s_setAll1, s_op1, s_op2, s_abs, s_addI, s_subI, eqI, neI, ltI, gtI, leI, geI, mkTup1, mkTup2, mkTup3, idx_t0, idx_t1, idx_t2, obS, omS, List.set_cons_zero, List.set_cons_succ, s_cNone, s_cPart, s_intD, s_cRng1, s_walkL, s_walkT, s_lenT, s_lenL, s_lenS, s_slT, s_slL, if_true, if_false, decide_true, decide_false, Bool.not_true, Bool.not_false, Bool.and_true, Bool.and_false, Bool.true_and, Bool.false_and, Bool.false_eq_true, decide_eq_true_eq, s_cEnum, s_sPut, s_revL, s_revT, s_listL, s_listT, s_tupleL, s_tupleT, s_isDicLst, s_isDicTup, s_isDicInt, wipeE_nil, wipeE_cons]
  unfold af4
  rw [s_sSeq]
  have em : sWhile (cBT neD (cV 4) (cC (.dic false []))) afC0 F [some (svD K S), some KD, some SD, some WD, some TD, some (.int 1), none, none, none] = _ := em
  rw [em]
  simp only [obS]
  unfold af5
  simp only [s_sSeq, s_sNil, s_sRet, s_sRetT, s_sIf, s_sAsg, s_sPar, s_sSetM, s_cND, s_cC, s_cB, s_cU, s_cTup, s_cLst, s_cNil, s_cCons, s_cCall, s_cFn, s_cIx, s_cAnd, s_cOr, s_cNot, s_cIf, s_cTr, s_cBT, s_cAndT, s_cOrT, s_cNotT, s_cCh, s_cChT, s_cSl, s_sFor, s_cWalk, s_cLc, s_lcOne, s_cTrue, s_sApp, s_gN, s_gT, s_gsNil, s_gsCons, s_cV0, s_cVs, s_finR, s_finN, s_boolD, s_truB, s_setAll0, s_setAll1, s_op1, s_op2, s_abs, s_addI, s_subI, eqI, neI, ltI, gtI, leI, geI, mkTup1, mkTup2, mkTup3, idx_t0, idx_t1, idx_t2, obS, omS, List.set_cons_zero, List.set_cons_succ, s_cNone, s_cPart, s_intD, s_cRng1, s_walkL, s_walkT, s_lenT, s_lenL, s_lenS, s_slT, s_slL, if_true, if_false, decide_true, decide_false, Bool.not_true, Bool.not_false, Bool.and_true, Bool.and_false, Bool.true_and, Bool.false_and, Bool.false_eq_true, decide_eq_true_eq, s_cEnum, s_sPut, s_revL, s_revT, s_listL, s_listT, s_tupleL, s_tupleT, s_isDicLst, s_isDicTup, s_isDicInt, wipeE_nil, wipeE_cons]
end L
end
section
open PySem PySem.Spec PyProof.Rows L2 RE
namespace RE
/-! found alike, in whatever order -/
def SameW (W W' : Wh) : Prop := ∀ n, getA W n = getA W' n
theorem JW_same {W W' : Wh} (h : SameW W W') (bk : Bool) : JW bk W = JW bk W' := by
  funext r q
  unfold JW
  rw [h r.1, h q.1]
theorem rowsM_same {S : List Sg} {W W' : Wh} (h : SameW W W') (m : Str) : rowsM S W m = rowsM S W' m := by
  unfold rowsM
  congr 1
  refine List.filter_congr fun s _ => ?_
  rw [h]
theorem rowsL_same {S : List Sg} {W W' : Wh} (h : SameW W W') (m : Str) : rowsL S W m = rowsL S W' m := by
  unfold rowsL
  congr 1
  refine List.filter_congr fun s _ => ?_
  rw [h]
theorem next_same {S : List Sg} {W W' : Wh} (h : SameW W W') : nextL S W = nextL S W' := by
  have e1 : vM S W = vM S W' := by funext m; unfold vM; rw [h m, JW_same h, rowsM_same h]
  have e2 : vL S W = vL S W' := by funext m; unfold vL; rw [h m, JW_same h, rowsL_same h]
  unfold nextL allV
  rw [e1, e2]
noncomputable def namesL (S : List Sg) : List Str := srt (S.map (·.1) ++ S.map (·.2.1))
def vA (S : List Sg) (W : Wh) (n : Str) : Option Tr := (first2 (JW false W) (rowsM S W n)).or (first2 (JW true W) (rowsL S W n))
noncomputable def lawN (S : List Sg) (W : Wh) : List (Str × Tr) := ((namesL S).filter fun n => !(getA W n).isSome).filterMap fun n => (vA S W n).map fun p => (n, p)
theorem mem_names {S : List Sg} {n : Str} : n ∈ namesL S ↔ n ∈ markL S ∨ n ∈ lookL S := by
  unfold namesL
  rw [(srt_spec _).2.1, List.mem_append, mem_markL, mem_lookL, List.mem_map, List.mem_map]
  exact Or.comm
theorem vA_mark {S : List Sg} (h : SgOk S) {W : Wh} {n : Str} (hn : n ∈ markL S) (hg : getA W n = none) : vA S W n = vM S W n := by
  obtain ⟨s, hs, rfl⟩ := mem_markL.mp hn
  have e : rowsL S W s.2.1 = [] := by
    unfold rowsL
    rw [List.map_eq_nil_iff, List.filter_eq_nil_iff]
    intro q hq
    have := h.dis q hq s hs
    simp [this]
  unfold vA vM
  rw [e, hg]
  simp [first2]
theorem vA_look {S : List Sg} (h : SgOk S) {W : Wh} {n : Str} (hn : n ∈ lookL S) (hg : getA W n = none) : vA S W n = vL S W n := by
  obtain ⟨s, hs, rfl⟩ := mem_lookL.mp hn
  have e : rowsM S W s.1 = [] := by
    unfold rowsM
    rw [List.map_eq_nil_iff, List.filter_eq_nil_iff]
    intro q hq
    have := h.dis s hs q hq
    simp [Ne.symm this]
  unfold vA vL
  rw [e, hg]
  simp [first2]
theorem mem_next' {S : List Sg} {W : Wh} {z : Str × Tr} : z ∈ nextL S W ↔ (z.1 ∈ markL S ∧ vM S W z.1 = some z.2) ∨ (z.1 ∈ lookL S ∧ vL S W z.1 = some z.2) := by
  refine ⟨mem_next, fun h => ?_⟩
  unfold nextL
  have key : (z.1, some z.2) ∈ allV S W := by
    unfold allV
    rcases h with ⟨h1, h2⟩ | ⟨h1, h2⟩
    · exact List.mem_append.mpr (.inl (List.mem_map.mpr ⟨z.1, h1, by rw [h2]⟩))
    · exact List.mem_append.mpr (.inr (List.mem_map.mpr ⟨z.1, h1, by rw [h2]⟩))
  exact List.mem_filterMap.mpr ⟨_, key, rfl⟩
theorem mem_lawN {S : List Sg} (h : SgOk S) {W : Wh} {z : Str × Tr} : z ∈ lawN S W ↔ z ∈ nextL S W := by
  unfold lawN
  rw [List.mem_filterMap]
  constructor
  · rintro ⟨n, hn, e⟩
    obtain ⟨h1, h2⟩ := List.mem_filter.mp hn
    obtain ⟨p, hp, rfl⟩ := Option.map_eq_some_iff.mp e
    have hg : getA W n = none := by
      cases hq : getA W n with
      | none => rfl
      | some e => rw [hq] at h2; cases h2
    rw [mem_next']
    rcases mem_names.mp h1 with hm | hm
    · exact .inl ⟨hm, by rw [← vA_mark h hm hg]; exact hp⟩
    · exact .inr ⟨hm, by rw [← vA_look h hm hg]; exact hp⟩
  · intro hz
    have hg := next_fresh hz
    refine ⟨z.1, List.mem_filter.mpr ⟨?_, by rw [hg]; rfl⟩, ?_⟩
    · rcases mem_next'.mp hz with ⟨hm, _⟩ | ⟨hm, _⟩
      · exact mem_names.mpr (.inl hm)
      · exact mem_names.mpr (.inr hm)
    · rcases mem_next'.mp hz with ⟨hm, hv⟩ | ⟨hm, hv⟩
      · rw [vA_mark h hm hg, hv]; rfl
      · rw [vA_look h hm hg, hv]; rfl
theorem lawN_keys {S : List Sg} {W : Wh} : ((lawN S W).map (·.1)).Sublist (namesL S) := by
  unfold lawN
  refine List.Sublist.trans ?_ (List.filter_sublist (p := fun n => !(getA W n).isSome))
  generalize (namesL S).filter (fun n => !(getA W n).isSome) = l
  induction l with
  | nil => exact List.Sublist.refl _
  | cons n l ih =>
    cases hv : vA S W n with
    | none =>
      rw [List.filterMap_cons_none (by rw [hv]; rfl)]
      exact ih.cons _
    | some p =>
      rw [List.filterMap_cons_some (b := (n, p)) (by rw [hv]; rfl), List.map_cons]
      exact ih.cons₂ _
theorem lawN_nd {S : List Sg} {W : Wh} : ((lawN S W).map (·.1)).Nodup := (ltT_nodup (srt_spec _).1).sublist lawN_keys
theorem getA_ext {α : Type} {L M : List (Str × α)} (hl : (L.map (·.1)).Nodup) (hm : (M.map (·.1)).Nodup) (h : ∀ z, z ∈ L ↔ z ∈ M) (n : Str) : getA L n = getA M n := by
  cases hq : getA L n with
  | some a => exact (getA_of hm ((h _).mp (getA_mem hq))).symm
  | none =>
    cases hr : getA M n with
    | none => rfl
    | some a => rw [getA_of hl ((h _).mpr (getA_mem hr))] at hq; cases hq
theorem tag_get (t : Nat) (M : List (Str × Tr)) (n : Str) : getA (tagL t M) n = (getA M n).map (tagE t) := by
  unfold tagL
  induction M with
  | nil => rfl
  | cons z M ih =>
    rw [List.map_cons, getA_cons, getA_cons]
    split
    · rfl
    · exact ih
theorem same_step {S : List Sg} (h : SgOk S) {W W' : Wh} (s : SameW W W') (t : Nat) : SameW (W ++ tagL t (nextL S W)) (W' ++ tagL t (lawN S W')) := by
  intro n
  rw [getA_app, getA_app, s n, tag_get, tag_get, next_same s, getA_ext (next_nd h W') lawN_nd (fun z => (mem_lawN h).symm) n]
theorem same_keys {W W' : Wh} (s : SameW W W') (a : Str) : a ∈ W.map (·.1) ↔ a ∈ W'.map (·.1) := by
  have h1 := (getA_none (L := W) (n := a))
  have h2 := (getA_none (L := W') (n := a))
  rw [s a] at h1
  exact ⟨fun q => Classical.byContradiction fun z => h1.mp (h2.mpr z) q, fun q => Classical.byContradiction fun z => h2.mp (h1.mpr z) q⟩
theorem same_len {N : List Str} {W W' : Wh} (I : Inv N W) (s : SameW W W') (nd : (W'.map (·.1)).Nodup) : W'.length ≤ 10 := by
  have := nodup_le (W'.map (·.1)) N nd fun x hx => by
    obtain ⟨z, hz, rfl⟩ := List.mem_map.mp ((same_keys s x).mpr hx)
    exact I.sub z hz
  rw [List.length_map] at this
  exact Nat.le_trans this I.N10
/-- the told rows -/
def rowD (W : Wh) (n : Str) : D := match getA W n with
  | some e => .tup [.str n, pt e.x e.y, natD e.t]
  | none => .non
noncomputable def locL (W : Wh) : List D := (srt (W.map (·.1))).map (rowD W)
theorem loc_same {W W' : Wh} (s : SameW W W') : locL W = locL W' := by
  unfold locL
  have e : rowD W = rowD W' := by funext n; unfold rowD; rw [s n]
  rw [e, srt_congr (same_keys s)]
theorem mem_srt_get {W : Wh} {n : Str} (h : n ∈ srt (W.map (·.1))) : ∃ e, getA W n = some e := by
  rw [(srt_spec _).2.1] at h
  cases hq : getA W n with
  | some e => exact ⟨e, rfl⟩
  | none => exact absurd h (getA_none.mp hq)
theorem ones_ne {α : Type} (l : List α) : neD (.lst (l.map fun _ => D.int 1)) (.lst []) = some (.bl (!l.isEmpty)) := by
  have p1 : pd 64 (.lst (l.map fun _ => D.int 1)) = true := by
    show (l.map fun _ => D.int 1).all (pd 63) = true
    rw [List.all_eq_true]
    intro x hx
    obtain ⟨_, _, rfl⟩ := List.mem_map.mp hx
    rfl
  unfold neD pd2
  rw [p1, show pd 64 (.lst []) = true from rfl]
  cases l with
  | nil => rfl
  | cons a l =>
    have : eqv (.lst ((a :: l).map fun _ => D.int 1)) (.lst []) = false := by simp [eqv, toP, toPs, PyData.eqv, PyData.eqvAll]
    rw [this]; rfl
theorem tru_optT (o : Option Tr) : truD (optT o) = some o.isSome := by cases o <;> rfl
end RE
namespace L
theorem loc_lc (F : Fn) (i j : Nat) {W : Wh} (nd : (W.map (·.1)).Nodup) (ρ : RE.Env) (hi : ∀ d, cV i F (ρ.set j (some d)) = some (asD entD W)) (hj : ∀ d, cV j F (ρ.set j (some d)) = some d) : lcAll (lcOne (gN j) cTrue (cB addD (cTup (cCons (cV j) (cNil))) (cSl (cIx (cV i) (cV j)) (cNone) (cPart (cC (.int 2))))) F ρ) ((srt (W.map (·.1))).map .str) = some (locL W) := by
  refine lc_map fun n hn => ?_
  obtain ⟨e, he⟩ := mem_srt_get hn
  have i1 := idx_as entD he
  have i2 := ent_cut e
  have i3 : RE.intD (.int 2) = some 2 := rfl
  have ad : addD (.tup [.str n]) (.tup [pt e.x e.y, natD e.t]) = some (rowD W n) := by
    rw [add_tup (by simp)]
    unfold rowD
    rw [he]
    rfl
  have h1 := hi (.str n)
  have h2 := hj (.str n)
  rw [s_lcOne, s_gN, obS]
  simp only [s_cTrue, obS, if_true, s_cB, s_cTup, s_cCons, s_cNil, h2, mkTup1, s_cSl, s_cIx, h1, i1, s_cNone, s_cPart, s_cC, i3, omS, i2, ad]
theorem located_ev (n : Nat) {K : List Rwy} {S : List Sg} {N : List Str} (h : SvOk K S N) : lvl (DT rows) (n + 11) "located" [svD K S] = some (.lst (locL (finW K S))) := by
  have fa := all_found_ev n h
  have I := fin_inv h
  have hl := I.len
  rw [v_located]
  generalize lvl (DT rows) (n + 10) = F at *
  generalize finW K S = W at *
  have so := sort_as entD (L := W) I.nd (by omega)
  have lc := loc_lc F 1 2 I.nd [some (svD K S), some (asD entD W), none] (fun d => rfl) (fun d => rfl)
  have mk := mkLst_ev (ds := locL W) (by unfold locL; rw [List.length_map]; have := (srt_spec (W.map (·.1))).2.2.1; rw [List.length_map] at this; omega)
  unfold b_located
  simp only [s_sSeq, s_sAsg, s_cFn, s_cCons, s_cV0, s_cNil, obS, fa, s_gN, omS, List.set_cons_succ, List.set_cons_zero]
  rw [s_sRetT, s_cLc]
  simp only [s_cWalk, s_cCall, s_cCons, s_cVs, s_cV0, s_cNil, obS, s_op1, so, s_walkL, wipeE_cons, wipeE_nil, List.set_cons_succ, List.set_cons_zero]
  rw [lc]
  simp only [obS, mk, omS]
  rfl
end L
end
section
open PySem PySem.Spec PyProof.Rows L2 RE
namespace RE
theorem fm_tag (S : List Sg) (W : Wh) (t : Nat) : ((namesL S).filter fun n => !(getA W n).isSome).filterMap (fun n => (vA S W n).map fun p => (n, tagE t p)) = tagL t (lawN S W) := by
  unfold lawN tagL
  generalize (namesL S).filter (fun n => !(getA W n).isSome) = l
  induction l with
  | nil => rfl
  | cons n l ih =>
    cases hv : vA S W n with
    | none =>
      rw [List.filterMap_cons_none (by rw [hv]; rfl), List.filterMap_cons_none (by rw [hv]; rfl)]
      exact ih
    | some p =>
      rw [List.filterMap_cons_some (b := (n, tagE t p)) (by rw [hv]; rfl), List.filterMap_cons_some (b := (n, p)) (by rw [hv]; rfl), List.map_cons, ih]
theorem sv_idx0 (K : List Rwy) (S : List Sg) : idxD (svD K S) (.int 0) = some (.tup (K.map knD)) := idx_t0 _ _
theorem sv_idx1 (K : List Rwy) (S : List Sg) : idxD (svD K S) (.int 1) = some (.tup (S.map sgD)) := idx_t1 _ _ _
theorem ent_idx1 (e : Ent) : idxD (entD e) (.int 1) = some (natD e.t) := idx_t1 _ _ _
theorem run_len0 (S : List Sg) (t : Nat) (W : Wh) (f : Nat) (h : nextL S W = []) : runW S (f + 1) t W = W := by
  unfold runW
  rw [if_pos h]
theorem run_len1 (S : List Sg) (t : Nat) (W : Wh) (f : Nat) (h : nextL S W ≠ []) : runW S (f + 1) t W = runW S f (t + 1) (W ++ tagL t (nextL S W)) := by
  conv => lhs; unfold runW
  rw [if_neg h]
end RE
namespace L
theorem law_twoM_ev (n : Nat) {S : List Sg} (h : SgOk S) {W : Wh} (hw : WhOk 2200 W) (m : Str) : lvl (DT rows) (n + 6) "_law_two" [.lst ((rowsM S W m).map knD), asD entD W, .bl false] = some (optT (first2 (JW false W) (rowsM S W m))) := by
  rw [v__law_two, law_two_ev (lvl (DT rows) (n + 5)) (rowsM S W m) (rowsM_len h W m) W false (JW false W) ((rowsM_pw h W m).imp fun {r q} ⟨ne, ⟨e, g1⟩, ⟨e', g2⟩, _, ⟨a1, a2⟩, b1, b2⟩ => ?_)]
  · rfl
  · obtain ⟨k, l, k1, k2, hk⟩ := hw r.1 q.1 e e' ne g1 g2
    refine ⟨e, e', g1, g2, ?_⟩
    have := joint_ev n k1 k2 a1 a2 b1 b2 (by decide) (by decide) (by omega)
    simp only [Bool.false_eq_true, if_false]
    rw [this]
    unfold JW
    rw [g1, g2]
    rfl
theorem law_twoL_ev (n : Nat) {S : List Sg} (h : SgOk S) {W : Wh} (hw : WhOk 2200 W) (m : Str) : lvl (DT rows) (n + 6) "_law_two" [.lst ((rowsL S W m).map knD), asD entD W, .bl true] = some (optT (first2 (JW true W) (rowsL S W m))) := by
  have ng : ∀ w : Int × Int, w.1.natAbs < 2 ^ 7 → w.2.natAbs < 2 ^ 7 → (ngw w).1.natAbs < 2 ^ 7 ∧ (ngw w).2.natAbs < 2 ^ 7 := fun w h1 h2 => ⟨by unfold ngw; simpa using h1, by unfold ngw; simpa using h2⟩
  rw [v__law_two, law_two_ev (lvl (DT rows) (n + 5)) (rowsL S W m) (rowsL_len h W m) W true (JW true W) ((rowsL_pw h W m).imp fun {r q} ⟨ne, ⟨e, g1⟩, ⟨e', g2⟩, _, ⟨a1, a2⟩, b1, b2⟩ => ?_)]
  · rfl
  · obtain ⟨k, l, k1, k2, hk⟩ := hw r.1 q.1 e e' ne g1 g2
    refine ⟨e, e', g1, g2, ?_⟩
    have := joint_ev n (w := ngw r.2) (v := ngw q.2) k1 k2 (ng _ a1 a2).1 (ng _ a1 a2).2 (ng _ b1 b2).1 (ng _ b1 b2).2 (by decide) (by decide) (by omega)
    simp only [if_true]
    rw [this]
    unfold JW
    rw [g1, g2]
    rfl
/-- one round of the law's own -/
theorem fo_round (F : Fn) {t : Nat} {K : List Rwy} {S : List Sg} (h : SgOk S) {W : Wh} (nd : (W.map (·.1)).Nodup) (hl : W.length ≤ 10) (hn : (lawN S W).length ≤ 200)
    (tM : ∀ m, F "_law_two" [.lst ((rowsM S W m).map knD), asD entD W, .bl false] = some (optT (first2 (JW false W) (rowsM S W m))))
    (tL : ∀ m, F "_law_two" [.lst ((rowsL S W m).map knD), asD entD W, .bl true] = some (optT (first2 (JW true W) (rowsL S W m))))
    (ndn : ((W ++ tagL (t + 1) (lawN S W)).map (·.1)).Nodup) (x2 x3 x4 x7 x8 x9 x10 x11 x12 : Option D) :
    ∃ y2 y7 y8 y9 y10, foD0 F [some (svD K S), some (asD entD W), x2, x3, x4, some (.lst ((namesL S).map .str)), some (natD t), x7, x8, x9, x10, x11, x12] = some (.nx [some (svD K S), some (asD entD (W ++ tagL (t + 1) (lawN S W))), y2, x3, x4, some (.lst ((namesL S).map .str)), some (natD (t + 1)), y7, y8, y9, y10, x11, x12]) := by
  have i1 := sv_idx1 K S
  generalize svD K S = SV at *
  have wS : walkL (.tup (S.map sgD)) = some (S.map sgD) := rfl
  generalize hS : D.tup (S.map sgD) = SD at *
  generalize hNL : D.lst ((namesL S).map .str) = NL at *
  have loop : ∀ (l : List Str) (M : Wh) (x2 x8 x9 x10 : Option D), ((M ++ l.filterMap fun n => (vA S W n).map fun p => (n, tagE (t + 1) p)).map (·.1)).Nodup → (M ++ l.filterMap fun n => (vA S W n).map fun p => (n, tagE (t + 1) p)).length ≤ 200 → ∃ y2 y8 y9 y10, forD (gN 2) (foDC0 F) (l.map .str) [some SV, some (asD entD W), x2, x3, x4, some NL, some (natD (t + 1)), some (asD entD M), x8, x9, x10, x11, x12] = some (.nx [some SV, some (asD entD W), y2, x3, x4, some NL, some (natD (t + 1)), some (asD entD (M ++ l.filterMap fun n => (vA S W n).map fun p => (n, tagE (t + 1) p))), y8, y9, y10, x11, x12]) := by
    intro l
    induction l with
    | nil => intro M x2 x8 x9 x10 _ _; exact ⟨x2, x8, x9, x10, by simp [forD]⟩
    | cons n l ih =>
      intro M x2 x8 x9 x10 ndM lenM
      have lcM : lcAll (lcOne (gN 11) (cAndT (cBT eqD (cIx (cV 11) (cC (.int 1))) (cV 2)) (cBT inD (cIx (cV 11) (cC (.int 0))) (cV 1))) (cTup (cCons (cIx (cV 11) (cC (.int 0))) (cCons (cIx (cV 11) (cC (.int 2))) (cNil)))) F [some SV, some (asD entD W), some (.str n), x3, x4, some NL, some (natD (t + 1)), some (asD entD M), x8, x9, x10, none, x12]) (S.map sgD) = some ((rowsM S W n).map knD) := by
        unfold rowsM
        rw [List.map_map]
        refine lc_filter fun s _ => ?_
        have e1 := eqStr s.2.1 n
        have e2 := in_as entD W s.1
        have j0 := idx_s0 s
        have j1 := idx_s1 s
        have j2 := idx_s2 s
        generalize asD entD W = WD at *
        generalize asD entD M = MD at *
        generalize decide (s.2.1 = n) = b1 at *
        generalize (getA W s.1).isSome = b2 at *
        cases b1 <;> cases b2 <;> (simp only [s_sSeq, s_sNil, s_sRet, s_sRetT, s_sIf, s_sAsg, s_sPar, s_sSetM, s_cND, s_cC, s_cB, s_cU, s_cTup, s_cLst, s_cNil, s_cCons, s_cCall, s_cFn, s_cIx, s_cAnd, s_cOr, s_cNot, s_cIf, s_cTr, s_cBT, s_cAndT, s_cOrT, s_cNotT, s_cCh, s_cChT, s_cSl, s_sFor, s_cWalk, s_cLc, s_lcOne, s_cTrue, s_sApp, s_gN, s_gT, s_gsNil, s_gsCons, s_cV0, s_cVs, s_finR, s_finN, s_boolD, s_truB, s_setAll0, s_setAll1, s_op1, s_op2, s_abs, s_addI, s_subI, eqI, neI, ltI, gtI, leI, geI, mkTup1, mkTup2, mkTup3, idx_t0, idx_t1, idx_t2, obS, omS, List.set_cons_zero, List.set_cons_succ, s_cNone, s_cPart, s_intD, s_cRng1, s_walkL, s_walkT, s_lenT, s_lenL, s_lenS, s_slT, s_slL, if_true, if_false, decide_true, decide_false, Bool.not_true, Bool.not_false, Bool.and_true, Bool.and_false, Bool.true_and, Bool.false_and, Bool.false_eq_true, decide_eq_true_eq, s_cEnum, s_sPut, s_revL, s_revT, s_listL, s_listT, s_tupleL, s_tupleT, s_isDicLst, s_isDicTup, s_isDicInt, wipeE_nil, wipeE_cons, e1, e2, j0, j1, j2]; try rfl)
      have lcL : ∀ x8, lcAll (lcOne (gN 11) (cAndT (cBT eqD (cIx (cV 11) (cC (.int 0))) (cV 2)) (cBT inD (cIx (cV 11) (cC (.int 1))) (cV 1))) (cTup (cCons (cIx (cV 11) (cC (.int 1))) (cCons (cIx (cV 11) (cC (.int 2))) (cNil)))) F [some SV, some (asD entD W), some (.str n), x3, x4, some NL, some (natD (t + 1)), some (asD entD M), x8, x9, x10, none, x12]) (S.map sgD) = some ((rowsL S W n).map knD) := fun x8 => by
        unfold rowsL
        rw [List.map_map]
        refine lc_filter fun s _ => ?_
        have e1 := eqStr s.1 n
        have e2 := in_as entD W s.2.1
        have j0 := idx_s0 s
        have j1 := idx_s1 s
        have j2 := idx_s2 s
        generalize asD entD W = WD at *
        generalize asD entD M = MD at *
        generalize decide (s.1 = n) = b1 at *
        generalize (getA W s.2.1).isSome = b2 at *
        cases b1 <;> cases b2 <;> (simp only [s_sSeq, s_sNil, s_sRet, s_sRetT, s_sIf, s_sAsg, s_sPar, s_sSetM, s_cND, s_cC, s_cB, s_cU, s_cTup, s_cLst, s_cNil, s_cCons, s_cCall, s_cFn, s_cIx, s_cAnd, s_cOr, s_cNot, s_cIf, s_cTr, s_cBT, s_cAndT, s_cOrT, s_cNotT, s_cCh, s_cChT, s_cSl, s_sFor, s_cWalk, s_cLc, s_lcOne, s_cTrue, s_sApp, s_gN, s_gT, s_gsNil, s_gsCons, s_cV0, s_cVs, s_finR, s_finN, s_boolD, s_truB, s_setAll0, s_setAll1, s_op1, s_op2, s_abs, s_addI, s_subI, eqI, neI, ltI, gtI, leI, geI, mkTup1, mkTup2, mkTup3, idx_t0, idx_t1, idx_t2, obS, omS, List.set_cons_zero, List.set_cons_succ, s_cNone, s_cPart, s_intD, s_cRng1, s_walkL, s_walkT, s_lenT, s_lenL, s_lenS, s_slT, s_slL, if_true, if_false, decide_true, decide_false, Bool.not_true, Bool.not_false, Bool.and_true, Bool.and_false, Bool.true_and, Bool.false_and, Bool.false_eq_true, decide_eq_true_eq, s_cEnum, s_sPut, s_revL, s_revT, s_listL, s_listT, s_tupleL, s_tupleT, s_isDicLst, s_isDicTup, s_isDicInt, wipeE_nil, wipeE_cons, e1, e2, j0, j1, j2]; try rfl)
      have mkM := mkLst_ev (ds := (rowsM S W n).map knD) (by rw [List.length_map]; have := rowsM_len h W n; omega)
      have mkL := mkLst_ev (ds := (rowsL S W n).map knD) (by rw [List.length_map]; have := rowsL_len h W n; omega)
      have tM' := tM n
      have tL' := tL n
      have step : ∃ M2 : Wh, (M2 ++ l.filterMap fun n => (vA S W n).map fun p => (n, tagE (t + 1) p)) = (M ++ (n :: l).filterMap fun n => (vA S W n).map fun p => (n, tagE (t + 1) p)) ∧
          foDC0 F [some SV, some (asD entD W), some (.str n), x3, x4, some NL, some (natD (t + 1)), some (asD entD M), x8, x9, x10, x11, x12] = some (.nx [some SV, some (asD entD W), some (.str n), x3, x4, some NL, some (natD (t + 1)), some (asD entD M2), some (.lst ((rowsM S W n).map knD)), some (.lst ((rowsL S W n).map knD)), some (optT (vA S W n)), x11, x12]) := by
        have pre : foDC0 F [some SV, some (asD entD W), some (.str n), x3, x4, some NL, some (natD (t + 1)), some (asD entD M), x8, x9, x10, x11, x12] = foDC3 F [some SV, some (asD entD W), some (.str n), x3, x4, some NL, some (natD (t + 1)), some (asD entD M), some (.lst ((rowsM S W n).map knD)), some (.lst ((rowsL S W n).map knD)), some (optT (vA S W n)), x11, x12] := by
          unfold foDC0
          rw [s_sSeq, s_sAsg, s_cLc]
          simp only [s_cWalk, s_cIx, s_cVs, s_cV0, s_cC, obS, i1, wS, wipeE_cons, wipeE_nil, List.set_cons_succ, List.set_cons_zero]
          rw [lcM]
          simp only [obS, mkM, s_gN, omS, List.set_cons_succ, List.set_cons_zero]
          unfold foDC1
          rw [s_sSeq, s_sAsg, s_cLc]
          simp only [s_cWalk, s_cIx, s_cVs, s_cV0, s_cC, obS, i1, wS, wipeE_cons, wipeE_nil, List.set_cons_succ, List.set_cons_zero]
          rw [lcL]
          simp only [obS, mkL, s_gN, omS, List.set_cons_succ, List.set_cons_zero]
          generalize D.lst ((rowsM S W n).map knD) = RM at *
          generalize D.lst ((rowsL S W n).map knD) = RL at *
          generalize asD entD W = WD at *
          generalize asD entD M = MD at *
          have tr := tru_optT (first2 (JW false W) (rowsM S W n))
          unfold foDC2 vA
          cases hf : first2 (JW false W) (rowsM S W n) with
          | none =>
            rw [hf] at tr tM'
            simp only [s_sSeq, s_sNil, s_sRet, s_sRetT, s_sIf, s_sAsg, s_sPar, s_sSetM, s_cND, s_cC, s_cB, s_cU, s_cTup, s_cLst, s_cNil, s_cCons, s_cCall, s_cFn, s_cIx, s_cAnd, s_cOr, s_cNot, s_cIf, s_cTr, s_cBT, s_cAndT, s_cOrT, s_cNotT, s_cCh, s_cChT, s_cSl, s_sFor, s_cWalk, s_cLc, s_lcOne, s_cTrue, s_sApp, s_gN, s_gT, s_gsNil, s_gsCons, s_cV0, s_cVs, s_finR, s_finN, s_boolD, s_truB, s_setAll0, s_setAll1, s_op1, s_op2, s_abs, s_addI, s_subI, eqI, neI, ltI, gtI, leI, geI, mkTup1, mkTup2, mkTup3, idx_t0, idx_t1, idx_t2, obS, omS, List.set_cons_zero, List.set_cons_succ, s_cNone, s_cPart, s_intD, s_cRng1, s_walkL, s_walkT, s_lenT, s_lenL, s_lenS, s_slT, s_slL, if_true, if_false, decide_true, decide_false, Bool.not_true, Bool.not_false, Bool.and_true, Bool.and_false, Bool.true_and, Bool.false_and, Bool.false_eq_true, decide_eq_true_eq, s_cEnum, s_sPut, s_revL, s_revT, s_listL, s_listT, s_tupleL, s_tupleT, s_isDicLst, s_isDicTup, s_isDicInt, wipeE_nil, wipeE_cons, tM', tr, tL', Option.isSome, Option.none_or]
          | some p =>
            rw [hf] at tr tM'
            simp only [s_sSeq, s_sNil, s_sRet, s_sRetT, s_sIf, s_sAsg, s_sPar, s_sSetM, s_cND, s_cC, s_cB, s_cU, s_cTup, s_cLst, s_cNil, s_cCons, s_cCall, s_cFn, s_cIx, s_cAnd, s_cOr, s_cNot, s_cIf, s_cTr, s_cBT, s_cAndT, s_cOrT, s_cNotT, s_cCh, s_cChT, s_cSl, s_sFor, s_cWalk, s_cLc, s_lcOne, s_cTrue, s_sApp, s_gN, s_gT, s_gsNil, s_gsCons, s_cV0, s_cVs, s_finR, s_finN, s_boolD, s_truB, s_setAll0, s_setAll1, s_op1, s_op2, s_abs, s_addI, s_subI, eqI, neI, ltI, gtI, leI, geI, mkTup1, mkTup2, mkTup3, idx_t0, idx_t1, idx_t2, obS, omS, List.set_cons_zero, List.set_cons_succ, s_cNone, s_cPart, s_intD, s_cRng1, s_walkL, s_walkT, s_lenT, s_lenL, s_lenS, s_slT, s_slL, if_true, if_false, decide_true, decide_false, Bool.not_true, Bool.not_false, Bool.and_true, Bool.and_false, Bool.true_and, Bool.false_and, Bool.false_eq_true, decide_eq_true_eq, s_cEnum, s_sPut, s_revL, s_revT, s_listL, s_listT, s_tupleL, s_tupleT, s_isDicLst, s_isDicTup, s_isDicInt, wipeE_nil, wipeE_cons, tM', tr, Option.isSome, Option.some_or]
        rw [pre]
        have is := isnt_optT (vA S W n)
        cases hv : vA S W n with
        | none =>
          rw [hv] at is
          refine ⟨M, by rw [List.filterMap_cons_none (by rw [hv]; rfl)], ?_⟩
          unfold foDC3
          generalize D.lst ((rowsM S W n).map knD) = RM at *
          generalize D.lst ((rowsL S W n).map knD) = RL at *
          generalize asD entD W = WD at *
          generalize asD entD M = MD at *
          simp only [s_sSeq, s_sNil, s_sRet, s_sRetT, s_sIf, s_sAsg, s_sPar, s_sSetM, s_cND, s_cC, s_cB, s_cU, s_cTup, s_cLst, s_cNil, s_cCons, s_cCall, s_cFn, s_cIx, s_cAnd, s_cOr, s_cNot, s_cIf, s_cTr, s_cBT, s_cAndT, s_cOrT, s_cNotT, s_cCh, s_cChT, s_cSl, s_sFor, s_cWalk, s_cLc, s_lcOne, s_cTrue, s_sApp, s_gN, s_gT, s_gsNil, s_gsCons, s_cV0, s_cVs, s_finR, s_finN, s_boolD, s_truB, s_setAll0, s_setAll1, s_op1, s_op2, s_abs, s_addI, s_subI, eqI, neI, ltI, gtI, leI, geI, mkTup1, mkTup2, mkTup3, idx_t0, idx_t1, idx_t2, obS, omS, List.set_cons_zero, List.set_cons_succ, s_cNone, s_cPart, s_intD, s_cRng1, s_walkL, s_walkT, s_lenT, s_lenL, s_lenS, s_slT, s_slL, if_true, if_false, decide_true, decide_false, Bool.not_true, Bool.not_false, Bool.and_true, Bool.and_false, Bool.true_and, Bool.false_and, Bool.false_eq_true, decide_eq_true_eq, s_cEnum, s_sPut, s_revL, s_revT, s_listL, s_listT, s_tupleL, s_tupleT, s_isDicLst, s_isDicTup, s_isDicInt, wipeE_nil, wipeE_cons, is, Option.isSome]
        | some p =>
          rw [hv] at is
          rw [List.filterMap_cons_some (b := (n, tagE (t + 1) p)) (by rw [hv]; rfl)] at ndM lenM
          have hM : getA M n = none := getA_none.mpr fun hm => by
            rw [List.map_append, List.map_cons] at ndM
            exact (List.nodup_append.mp ndM).2.2 _ hm _ List.mem_cons_self rfl
          have pt' := put_as entD hM (by rw [List.length_append] at lenM; omega) (tagE (t + 1) p)
          refine ⟨M ++ [(n, tagE (t + 1) p)], by rw [List.filterMap_cons_some (b := (n, tagE (t + 1) p)) (by rw [hv]; rfl), List.append_assoc]; rfl, ?_⟩
          have q1 := tr_idx0 p
          have q2 := tr_cut p
          have q3 : RE.intD (.int 1) = some 1 := rfl
          have em : D.tup [pt p.1.1 p.1.2, natD (t + 1), .tup [.str p.2.1, .str p.2.2]] = entD (tagE (t + 1) p) := rfl
          have q0 : optT (some p) = trD p := rfl
          rw [q0] at is ⊢
          unfold foDC3
          generalize D.lst ((rowsM S W n).map knD) = RM at *
          generalize D.lst ((rowsL S W n).map knD) = RL at *
          generalize asD entD (M ++ [(n, tagE (t + 1) p)]) = M2 at *
          generalize asD entD W = WD at *
          generalize asD entD M = MD at *
          simp only [s_sSeq, s_sNil, s_sRet, s_sRetT, s_sIf, s_sAsg, s_sPar, s_sSetM, s_cND, s_cC, s_cB, s_cU, s_cTup, s_cLst, s_cNil, s_cCons, s_cCall, s_cFn, s_cIx, s_cAnd, s_cOr, s_cNot, s_cIf, s_cTr, s_cBT, s_cAndT, s_cOrT, s_cNotT, s_cCh, s_cChT, s_cSl, s_sFor, s_cWalk, s_cLc, s_lcOne, s_cTrue, s_sApp, s_gN, s_gT, s_gsNil, s_gsCons, s_cV0, s_cVs, s_finR, s_finN, s_boolD, s_truB, s_setAll0, s_setAll1, s_op1, s_op2, s_abs, s_addI, s_subI, eqI, neI, ltI, gtI, leI, geI, mkTup1, mkTup2, mkTup3, idx_t0, idx_t1, idx_t2, obS, omS, List.set_cons_zero, List.set_cons_succ, s_cNone, s_cPart, s_intD, s_cRng1, s_walkL, s_walkT, s_lenT, s_lenL, s_lenS, s_slT, s_slL, if_true, if_false, decide_true, decide_false, Bool.not_true, Bool.not_false, Bool.and_true, Bool.and_false, Bool.true_and, Bool.false_and, Bool.false_eq_true, decide_eq_true_eq, s_cEnum, s_sPut, s_revL, s_revT, s_listL, s_listT, s_tupleL, s_tupleT, s_isDicLst, s_isDicTup, s_isDicInt, wipeE_nil, wipeE_cons, is, Option.isSome, q1, q2, q3, em, pt']
      obtain ⟨M2, e1, e2⟩ := step
      obtain ⟨y2, y8, y9, y10, e3⟩ := ih M2 (some (.str n)) (some (.lst ((rowsM S W n).map knD))) (some (.lst ((rowsL S W n).map knD))) (some (optT (vA S W n))) (by rw [e1]; exact ndM) (by rw [e1]; exact lenM)
      refine ⟨y2, y8, y9, y10, ?_⟩
      rw [List.map_cons, forD, s_gN, obS]
      simp only [List.set_cons_succ, List.set_cons_zero]
      rw [e2]
      simp only [obS]
      rw [e3, e1]
  have lcF : lcAll (lcOne (gN 12) (cBT notInD (cV 12) (cV 1)) (cV 12) F [some SV, some (asD entD W), x2, x3, x4, some NL, some (natD (t + 1)), some (.dic false []), x8, x9, x10, x11, none]) ((namesL S).map .str) = some (((namesL S).filter fun n => !(getA W n).isSome).map .str) := lc_filter fun n _ => by
    have e := notin_as entD W n
    generalize asD entD W = WD at *
    simp only [s_sSeq, s_sNil, s_sRet, s_sRetT, s_sIf, s_sAsg, s_sPar, s_sSetM, s_cND, s_cC, s_cB, s_cU, s_cTup, s_cLst, s_cNil, s_cCons, s_cCall, s_cFn, s_cIx, s_cAnd, s_cOr, s_cNot, s_cIf, s_cTr, s_cBT, s_cAndT, s_cOrT, s_cNotT, s_cCh, s_cChT, s_cSl, s_sFor, s_cWalk, s_cLc, s_lcOne, s_cTrue, s_sApp, s_gN, s_gT, s_gsNil, s_gsCons, s_cV0, s_cVs, s_finR, s_finN, s_boolD, s_truB, s_setAll0, s_setAll1, s_op1, s_op2, s_abs, s_addI, s_subI, eqI, neI, ltI, gtI, leI, geI, mkTup1, mkTup2, mkTup3, idx_t0, idx_t1, idx_t2, obS, omS, List.set_cons_zero, List.set_cons_succ, s_cNone, s_cPart, s_intD, s_cRng1, s_walkL, s_walkT, s_lenT, s_lenL, s_lenS, s_slT, s_slL, if_true, if_false, decide_true, decide_false, Bool.not_true, Bool.not_false, Bool.and_true, Bool.and_false, Bool.true_and, Bool.false_and, Bool.false_eq_true, decide_eq_true_eq, s_cEnum, s_sPut, s_revL, s_revT, s_listL, s_listT, s_tupleL, s_tupleT, s_isDicLst, s_isDicTup, s_isDicInt, wipeE_nil, wipeE_cons, e]
    cases (getA W n).isSome <;> rfl
  have nlen : (namesL S).length ≤ 200 := by
    have := (srt_spec (S.map (·.1) ++ S.map (·.2.1))).2.2.1
    rw [List.length_append, List.length_map, List.length_map] at this
    have := h.len
    unfold namesL
    omega
  have mkF := mkLst_ev (ds := ((namesL S).filter fun n => !(getA W n).isSome).map D.str) (by rw [List.length_map]; have := List.length_filter_le (fun n => !(getA W n).isSome) (namesL S); omega)
  have tg := fm_tag S W (t + 1)
  have nd3 : ((tagL (t + 1) (lawN S W)).map (·.1)).Nodup := by rw [tag_keys]; exact lawN_nd
  obtain ⟨y2, y8, y9, y10, e⟩ := loop ((namesL S).filter fun n => !(getA W n).isSome) [] x2 x8 x9 x10 (by rw [List.nil_append, tg]; exact nd3) (by rw [List.nil_append, tg]; unfold tagL; rw [List.length_map]; exact hn)
  rw [List.nil_append, tg] at e
  have up := upd_as entD (L := W) (M := tagL (t + 1) (lawN S W)) ndn (by rw [List.length_append]; unfold tagL; rw [List.length_map]; omega)
  refine ⟨y2, some (asD entD (tagL (t + 1) (lawN S W))), y8, y9, y10, ?_⟩
  have wN : walkL NL = some ((namesL S).map .str) := by rw [← hNL]; rfl
  have a1 : addD (natD t) (.int 1) = some (natD (t + 1)) := rfl
  unfold foD0
  simp only [s_sSeq, s_sAsg, s_cB, s_cVs, s_cV0, s_cC, obS, a1, s_gN, omS, List.set_cons_succ, List.set_cons_zero]
  unfold foD1
  simp only [s_sSeq, s_sSetM, s_cC, omS, obS, List.set_cons_succ, List.set_cons_zero]
  unfold foD2
  rw [s_sSeq, s_sFor, s_cWalk, s_cLc]
  simp only [s_cWalk, s_cVs, s_cV0, obS, wN, wipeE_cons, wipeE_nil, List.set_cons_succ, List.set_cons_zero]
  rw [lcF]
  simp only [obS, mkF, s_walkL]
  have e : forD (gN 2) (foDC0 F) (((namesL S).filter fun n => !(getA W n).isSome).map .str) [some SV, some (asD entD W), x2, x3, x4, some NL, some (natD (t + 1)), some (.dic false []), x8, x9, x10, x11, x12] = _ := e
  rw [e]
  simp only [obS]
  unfold foD3
  rw [s_sSeq, s_sUpd]
  simp only [s_cVs, s_cV0, obS, up, omS, List.set_cons_succ, List.set_cons_zero, s_sNil]
end L
end
section
open PySem PySem.Spec PyProof.Rows L2 RE
namespace L
theorem fo_test (F : Fn) {W : Wh} (nd : (W.map (·.1)).Nodup) (hl : W.length ≤ 10) (t : Nat) (x0 x2 x3 x4 x5 x7 x8 x9 x10 x11 x12 : Option D) : cOrT (cBT eqD (cV 6) (cC (.int 0))) (cBT neD (cLc [2] (cKeys 1) (gN 2) (cBT eqD (cIx (cIx (cV 1) (cV 2)) (cC (.int 1))) (cV 6)) (cC (.int 1))) (cLst (cNil))) F [x0, some (asD entD W), x2, x3, x4, x5, some (natD t), x7, x8, x9, x10, x11, x12] = some (decide (t = 0) || !(W.filter fun z => decide (z.2.t = t)).isEmpty) := by
  have e0 : eqD (natD t) (.int 0) = some (.bl (decide (t = 0))) := by
    have : eqD (natD t) (.int 0) = some (.bl (decide ((t : Int) = 0))) := eqI _ _
    rw [this]
    exact congrArg (fun b => some (D.bl b)) (decide_eq_decide.mpr (by omega))
  have ks := keys_as entD W 1 F [x0, some (asD entD W), x2, x3, x4, x5, some (natD t), x7, x8, x9, x10, x11, x12] rfl
  have km : (W.map (·.1)).map D.str = W.map fun z => D.str z.1 := by rw [List.map_map]; rfl
  rw [km] at ks
  have lc : lcAll (lcOne (gN 2) (cBT eqD (cIx (cIx (cV 1) (cV 2)) (cC (.int 1))) (cV 6)) (cC (.int 1)) F [x0, some (asD entD W), none, x3, x4, x5, some (natD t), x7, x8, x9, x10, x11, x12]) (W.map fun z => D.str z.1) = some ((W.filter fun z => decide (z.2.t = t)).map fun _ => D.int 1) := lc_filter fun z hz => by
    have g := getA_of nd (n := z.1) (a := z.2) hz
    have i1 := idx_as entD g
    have i2 := ent_idx1 z.2
    have i3 : eqD (natD z.2.t) (natD t) = some (.bl (decide (z.2.t = t))) := by
      have : eqD (natD z.2.t) (natD t) = some (.bl (decide ((z.2.t : Int) = (t : Int)))) := eqI _ _
      rw [this]
      exact congrArg (fun b => some (D.bl b)) (decide_eq_decide.mpr (by omega))
    show _ = some (if decide (z.2.t = t) = true then [D.int 1] else [])
    generalize decide (z.2.t = t) = b at *
    generalize asD entD W = WD at *
    simp only [s_sSeq, s_sNil, s_sRet, s_sRetT, s_sIf, s_sAsg, s_sPar, s_sSetM, s_cND, s_cC, s_cB, s_cU, s_cTup, s_cLst, s_cNil, s_cCons, s_cCall, s_cFn, s_cIx, s_cAnd, s_cOr, s_cNot, s_cIf, s_cTr, s_cBT, s_cAndT, s_cOrT, s_cNotT, s_cCh, s_cChT, s_cSl, s_sFor, s_cWalk, s_cLc, s_lcOne, s_cTrue, s_sApp, s_gN, s_gT, s_gsNil, s_gsCons, s_cV0, s_cVs, s_finR, s_finN, s_boolD, s_truB, s_setAll0, s_setAll1, s_op1, s_op2, s_abs, s_addI, s_subI, eqI, neI, ltI, gtI, leI, geI, mkTup1, mkTup2, mkTup3, idx_t0, idx_t1, idx_t2, obS, omS, List.set_cons_zero, List.set_cons_succ, s_cNone, s_cPart, s_intD, s_cRng1, s_walkL, s_walkT, s_lenT, s_lenL, s_lenS, s_slT, s_slL, if_true, if_false, decide_true, decide_false, Bool.not_true, Bool.not_false, Bool.and_true, Bool.and_false, Bool.true_and, Bool.false_and, Bool.false_eq_true, decide_eq_true_eq, s_cEnum, s_sPut, s_revL, s_revT, s_listL, s_listT, s_tupleL, s_tupleT, s_isDicLst, s_isDicTup, s_isDicInt, wipeE_nil, wipeE_cons, i1, i2, i3]
    cases b <;> rfl
  have mk := mkLst_ev (ds := (W.filter fun z => decide (z.2.t = t)).map fun _ => D.int 1) (by rw [List.length_map]; have := List.length_filter_le (fun z => decide (z.2.t = t)) W; omega)
  have mk0 : mkLst [] = some (.lst []) := rfl
  have ne := ones_ne (W.filter fun z => decide (z.2.t = t))
  rw [s_cOrT, s_cBT]
  simp only [s_cVs, s_cV0, s_cC, obS, e0, s_boolD]
  by_cases h0 : t = 0
  · rw [decide_eq_true h0]; rfl
  · rw [decide_eq_false h0]
    simp only [Bool.false_eq_true, if_false, s_cBT, s_cLc, ks, obS, wipeE_cons, wipeE_nil, List.set_cons_succ, List.set_cons_zero]
    rw [lc]
    simp only [obS, mk, s_cLst, s_cNil, mk0, ne, s_boolD, Bool.false_or]
theorem law_found_ev (n : Nat) {K : List Rwy} {S : List Sg} {N : List Str} (h : SvOk K S N) : ∃ W', SameW (finW K S) W' ∧ (W'.map (·.1)).Nodup ∧ W'.length ≤ 10 ∧ lvl (DT rows) (n + 7) "_law_found" [svD K S] = some (asD entD W') := by
  have tM : ∀ W, WhOk 2200 W → ∀ m, lvl (DT rows) (n + 6) "_law_two" [.lst ((rowsM S W m).map knD), asD entD W, .bl false] = some (optT (first2 (JW false W) (rowsM S W m))) := fun W hw m => law_twoM_ev n h.sg hw m
  have tL : ∀ W, WhOk 2200 W → ∀ m, lvl (DT rows) (n + 6) "_law_two" [.lst ((rowsL S W m).map knD), asD entD W, .bl true] = some (optT (first2 (JW true W) (rowsL S W m))) := fun W hw m => law_twoL_ev n h.sg hw m
  rw [v__law_found, fo_eq]
  generalize lvl (DT rows) (n + 6) = F at *
  have loop : ∀ (f t : Nat) (W W' : Wh) (x2 x3 x4 x7 x8 x9 x10 x11 x12 : Option D), Inv N W → SameW W W' → (W'.map (·.1)).Nodup → 11 ≤ f + W.length → (∀ z ∈ W', z.2.t ≤ t) → (t = 0 ∨ ∃ z ∈ W', z.2.t = t) →
      ∃ m W'' y2 y3 y4 y6 y7 y8 y9 y10 y11 y12, SameW (runW S f (t + 1) W) W'' ∧ (W''.map (·.1)).Nodup ∧ whileD (cOrT (cBT eqD (cV 6) (cC (.int 0))) (cBT neD (cLc [2] (cKeys 1) (gN 2) (cBT eqD (cIx (cIx (cV 1) (cV 2)) (cC (.int 1))) (cV 6)) (cC (.int 1))) (cLst (cNil))) F) (foD0 F) m [some (svD K S), some (asD entD W'), x2, x3, x4, some (.lst ((namesL S).map .str)), some (natD t), x7, x8, x9, x10, x11, x12] = some (.nx [some (svD K S), some (asD entD W''), y2, y3, y4, some (.lst ((namesL S).map .str)), y6, y7, y8, y9, y10, y11, y12]) := by
    intro f
    induction f with
    | zero =>
      intro t W W' x2 x3 x4 x7 x8 x9 x10 x11 x12 I _ _ hl
      have := I.len
      omega
    | succ f ih =>
      intro t W W' x2 x3 x4 x7 x8 x9 x10 x11 x12 I s nd hl ht hc
      have len' := same_len I s nd
      have ok' : WhOk 2200 W' := fun a c e e' ne g g' => I.ok a c e e' ne (by rw [s]; exact g) (by rw [s]; exact g')
      have s2 := same_step h.sg s (t + 1)
      have I2 := inv_next h (t + 1) I
      have nd2 : ((W' ++ tagL (t + 1) (lawN S W')).map (·.1)).Nodup := by
        rw [List.map_append, tag_keys, List.nodup_append]
        refine ⟨nd, lawN_nd, fun a ha b hb e => ?_⟩
        subst e
        obtain ⟨z, hz, rfl⟩ := List.mem_map.mp hb
        exact getA_none.mp (next_fresh ((mem_lawN h.sg).mp hz)) ha
      have lenN : (lawN S W').length ≤ 200 := by
        have := same_len I2 s2 nd2
        rw [List.length_append] at this
        unfold tagL at this
        rw [List.length_map] at this
        omega
      obtain ⟨y2, y7, y8, y9, y10, er⟩ := fo_round F (t := t) (K := K) h.sg nd len' lenN (tM W' ok') (tL W' ok') nd2 x2 x3 x4 x7 x8 x9 x10 x11 x12
      have tst := fo_test F nd len' t (some (svD K S)) x2 x3 x4 (some (.lst ((namesL S).map .str))) x7 x8 x9 x10 x11 x12
      have tt : (decide (t = 0) || !(W'.filter fun z => decide (z.2.t = t)).isEmpty) = true := by
        rcases hc with hc | ⟨z, hz, e⟩
        · rw [decide_eq_true hc]; rfl
        · have : z ∈ W'.filter fun z => decide (z.2.t = t) := List.mem_filter.mpr ⟨hz, decide_eq_true e⟩
          cases hf : W'.filter fun z => decide (z.2.t = t) with
          | nil => rw [hf] at this; cases this
          | cons _ _ => simp
      rw [tt] at tst
      have enx : lawN S W' = [] ↔ nextL S W = [] := by
        rw [next_same s]
        constructor
        · intro e
          refine List.eq_nil_iff_forall_not_mem.mpr fun z hz => ?_
          have := (mem_lawN h.sg).mpr hz
          rw [e] at this; cases this
        · intro e
          refine List.eq_nil_iff_forall_not_mem.mpr fun z hz => ?_
          have := (mem_lawN h.sg).mp hz
          rw [e] at this; cases this
      by_cases hN : nextL S W = []
      · have e0 := enx.mpr hN
        rw [run_len0 S (t + 1) W f hN]
        have tst2 := fo_test F nd2 (same_len I2 s2 nd2) (t + 1) (some (svD K S)) y2 x3 x4 (some (.lst ((namesL S).map .str))) y7 y8 y9 y10 x11 x12
        rw [e0] at tst2 er nd2
        have et : tagL (t + 1) [] = [] := rfl
        rw [et, List.append_nil] at tst2 er nd2
        have ff : (decide (t + 1 = 0) || !(W'.filter fun z => decide (z.2.t = t + 1)).isEmpty) = false := by
          have : (W'.filter fun z => decide (z.2.t = t + 1)) = [] := by
            rw [List.filter_eq_nil_iff]
            intro z hz
            have := ht z hz
            rw [decide_eq_true_eq]
            omega
          rw [this]
          simp
        rw [ff] at tst2
        refine ⟨2, W', y2, x3, x4, some (natD (t + 1)), y7, y8, y9, y10, x11, x12, s, nd, ?_⟩
        rw [whileD, tst]
        simp only [obS, if_true]
        rw [er]
        simp only [obS]
        rw [whileD, tst2]
        rfl
      · rw [run_len1 S (t + 1) W f hN]
        have hne : lawN S W' ≠ [] := fun e => hN (enx.mp e)
        obtain ⟨z0, hz0⟩ := List.exists_mem_of_ne_nil _ hne
        have hlen : 1 ≤ (nextL S W).length := List.length_pos_iff.mpr hN
        obtain ⟨m, W'', z2, z3, z4, z6, z7, z8, z9, z10, z11, z12, q1, q2, q3⟩ := ih (t + 1) (W ++ tagL (t + 1) (nextL S W)) (W' ++ tagL (t + 1) (lawN S W')) y2 x3 x4 y7 y8 y9 y10 x11 x12 I2 s2 nd2 (by
          rw [List.length_append]
          have : (tagL (t + 1) (nextL S W)).length = (nextL S W).length := by unfold tagL; rw [List.length_map]
          omega) (fun z hz => by
          rcases List.mem_append.mp hz with hz | hz
          · exact Nat.le_succ_of_le (ht z hz)
          · unfold tagL at hz
            obtain ⟨y, _, rfl⟩ := List.mem_map.mp hz
            exact Nat.le_refl _) (.inr ⟨(z0.1, tagE (t + 1) z0.2), List.mem_append.mpr (.inr (List.mem_map.mpr ⟨z0, hz0, rfl⟩)), rfl⟩)
        refine ⟨m + 1, W'', z2, z3, z4, z6, z7, z8, z9, z10, z11, z12, q1, q2, ?_⟩
        rw [whileD, tst]
        simp only [obS, if_true]
        rw [er]
        simp only [obS]
        exact q3
  -- the known ones
  have j0 := sv_idx0 K S
  have j1 := sv_idx1 K S
  have I0 := inv_0 h
  have loopK : ∀ (l : List Rwy) (M : Wh) (x2 x3 x4 : Option D), ((M ++ l.map knE).map (·.1)).Nodup → (M ++ l.map knE).length ≤ 200 → ∃ y2 y3 y4, forD (gT (gsCons (gN 2) (gsCons (gT (gsCons (gN 3) (gsCons (gN 4) gsNil))) gsNil))) (foC0 F) (l.map knD) [some (svD K S), some (asD entD M), x2, x3, x4, none, none, none, none, none, none, none, none] = some (.nx [some (svD K S), some (asD entD (M ++ l.map knE)), y2, y3, y4, none, none, none, none, none, none, none, none]) := by
    intro l
    induction l with
    | nil => intro M x2 x3 x4 _ _; exact ⟨x2, x3, x4, by simp [forD]⟩
    | cons k l ih =>
      intro M x2 x3 x4 ndM lenM
      have hM : getA M k.1 = none := getA_none.mpr fun hm => by
        rw [List.map_append, List.map_cons, List.map_cons] at ndM
        exact (List.nodup_append.mp ndM).2.2 _ hm _ List.mem_cons_self rfl
      have p := put_as entD hM (by rw [List.length_append] at lenM; omega) (knE k).2
      have em : D.tup [.tup [rt (k.2.1 : Rat), rt (k.2.2 : Rat)], .int 0, .non] = entD (knE k).2 := rfl
      have ga : gT (gsCons (gN 2) (gsCons (gT (gsCons (gN 3) (gsCons (gN 4) gsNil))) gsNil)) (knD k) [some (svD K S), some (asD entD M), x2, x3, x4, none, none, none, none, none, none, none, none] = some [some (svD K S), some (asD entD M), some (.str k.1), some (.int k.2.1), some (.int k.2.2), none, none, none, none, none, none, none, none] := rfl
      have st : foC0 F [some (svD K S), some (asD entD M), some (.str k.1), some (.int k.2.1), some (.int k.2.2), none, none, none, none, none, none, none, none] = some (.nx [some (svD K S), some (asD entD (M ++ [knE k])), some (.str k.1), some (.int k.2.1), some (.int k.2.2), none, none, none, none, none, none, none, none]) := by
        have e2 : (k.1, (knE k).2) = knE k := rfl
        rw [e2] at p
        unfold foC0
        generalize asD entD (M ++ [knE k]) = M2 at *
        generalize asD entD M = MD at *
        simp only [s_sSeq, s_sNil, s_sRet, s_sRetT, s_sIf, s_sAsg, s_sPar, s_sSetM, s_cND, s_cC, s_cB, s_cU, s_cTup, s_cLst, s_cNil, s_cCons, s_cCall, s_cFn, s_cIx, s_cAnd, s_cOr, s_cNot, s_cIf, s_cTr, s_cBT, s_cAndT, s_cOrT, s_cNotT, s_cCh, s_cChT, s_cSl, s_sFor, s_cWalk, s_cLc, s_lcOne, s_cTrue, s_sApp, s_gN, s_gT, s_gsNil, s_gsCons, s_cV0, s_cVs, s_finR, s_finN, s_boolD, s_truB, s_setAll0, s_setAll1, s_op1, s_op2, s_abs, s_addI, s_subI, eqI, neI, ltI, gtI, leI, geI, mkTup1, mkTup2, mkTup3, idx_t0, idx_t1, idx_t2, obS, omS, List.set_cons_zero, List.set_cons_succ, s_cNone, s_cPart, s_intD, s_cRng1, s_walkL, s_walkT, s_lenT, s_lenL, s_lenS, s_slT, s_slL, if_true, if_false, decide_true, decide_false, Bool.not_true, Bool.not_false, Bool.and_true, Bool.and_false, Bool.true_and, Bool.false_and, Bool.false_eq_true, decide_eq_true_eq, s_cEnum, s_sPut, s_revL, s_revT, s_listL, s_listT, s_tupleL, s_tupleT, s_isDicLst, s_isDicTup, s_isDicInt, wipeE_nil, wipeE_cons, rt_int, em, p]
      obtain ⟨y2, y3, y4, e⟩ := ih (M ++ [knE k]) (some (.str k.1)) (some (.int k.2.1)) (some (.int k.2.2)) (by rw [List.append_assoc]; exact ndM) (by rw [List.append_assoc]; exact lenM)
      refine ⟨y2, y3, y4, ?_⟩
      rw [List.map_cons, forD, ga, obS, st]
      simp only [obS]
      rw [e, List.append_assoc]
      rfl
  obtain ⟨y2, y3, y4, eK⟩ := loopK K [] none none none (by rw [List.nil_append]; exact I0.nd) (by rw [List.nil_append]; have := I0.len; omega)
  rw [List.nil_append] at eK
  obtain ⟨m, W'', z2, z3, z4, z6, z7, z8, z9, z10, z11, z12, q1, q2, q3⟩ := loop 11 0 (K.map knE) (K.map knE) y2 y3 y4 none none none none none none I0 (fun _ => rfl) I0.nd (by omega) (fun z hz => by
    obtain ⟨k, _, rfl⟩ := List.mem_map.mp hz
    exact Nat.le_refl _) (.inl rfl)
  have q3 := sWhile_of q3
  refine ⟨W'', q1, q2, same_len (fin_inv h) q1 q2, ?_⟩
  have wS : walkL (.tup (S.map sgD)) = some (S.map sgD) := rfl
  have wK : walkL (.tup (K.map knD)) = some (K.map knD) := rfl
  have lA : ∀ x5 x6, lcAll (lcOne (gN 11) cTrue (cIx (cV 11) (cC (.int 0))) F [some (svD K S), some (asD entD (K.map knE)), y2, y3, y4, x5, x6, none, none, none, none, none, none]) (S.map sgD) = some ((S.map (·.1)).map .str) := fun x5 x6 => by
    rw [List.map_map]
    refine lc_map fun s _ => ?_
    have := idx_s0 s
    generalize asD entD (K.map knE) = WD
    simp only [s_sSeq, s_sNil, s_sRet, s_sRetT, s_sIf, s_sAsg, s_sPar, s_sSetM, s_cND, s_cC, s_cB, s_cU, s_cTup, s_cLst, s_cNil, s_cCons, s_cCall, s_cFn, s_cIx, s_cAnd, s_cOr, s_cNot, s_cIf, s_cTr, s_cBT, s_cAndT, s_cOrT, s_cNotT, s_cCh, s_cChT, s_cSl, s_sFor, s_cWalk, s_cLc, s_lcOne, s_cTrue, s_sApp, s_gN, s_gT, s_gsNil, s_gsCons, s_cV0, s_cVs, s_finR, s_finN, s_boolD, s_truB, s_setAll0, s_setAll1, s_op1, s_op2, s_abs, s_addI, s_subI, eqI, neI, ltI, gtI, leI, geI, mkTup1, mkTup2, mkTup3, idx_t0, idx_t1, idx_t2, obS, omS, List.set_cons_zero, List.set_cons_succ, s_cNone, s_cPart, s_intD, s_cRng1, s_walkL, s_walkT, s_lenT, s_lenL, s_lenS, s_slT, s_slL, if_true, if_false, decide_true, decide_false, Bool.not_true, Bool.not_false, Bool.and_true, Bool.and_false, Bool.true_and, Bool.false_and, Bool.false_eq_true, decide_eq_true_eq, s_cEnum, s_sPut, s_revL, s_revT, s_listL, s_listT, s_tupleL, s_tupleT, s_isDicLst, s_isDicTup, s_isDicInt, wipeE_nil, wipeE_cons, this]
    rfl
  have lB : ∀ x5 x6, lcAll (lcOne (gN 11) cTrue (cIx (cV 11) (cC (.int 1))) F [some (svD K S), some (asD entD (K.map knE)), y2, y3, y4, x5, x6, none, none, none, none, none, none]) (S.map sgD) = some ((S.map (·.2.1)).map .str) := fun x5 x6 => by
    rw [List.map_map]
    refine lc_map fun s _ => ?_
    have := idx_s1 s
    generalize asD entD (K.map knE) = WD
    simp only [s_sSeq, s_sNil, s_sRet, s_sRetT, s_sIf, s_sAsg, s_sPar, s_sSetM, s_cND, s_cC, s_cB, s_cU, s_cTup, s_cLst, s_cNil, s_cCons, s_cCall, s_cFn, s_cIx, s_cAnd, s_cOr, s_cNot, s_cIf, s_cTr, s_cBT, s_cAndT, s_cOrT, s_cNotT, s_cCh, s_cChT, s_cSl, s_sFor, s_cWalk, s_cLc, s_lcOne, s_cTrue, s_sApp, s_gN, s_gT, s_gsNil, s_gsCons, s_cV0, s_cVs, s_finR, s_finN, s_boolD, s_truB, s_setAll0, s_setAll1, s_op1, s_op2, s_abs, s_addI, s_subI, eqI, neI, ltI, gtI, leI, geI, mkTup1, mkTup2, mkTup3, idx_t0, idx_t1, idx_t2, obS, omS, List.set_cons_zero, List.set_cons_succ, s_cNone, s_cPart, s_intD, s_cRng1, s_walkL, s_walkT, s_lenT, s_lenL, s_lenS, s_slT, s_slL, if_true, if_false, decide_true, decide_false, Bool.not_true, Bool.not_false, Bool.and_true, Bool.and_false, Bool.true_and, Bool.false_and, Bool.false_eq_true, decide_eq_true_eq, s_cEnum, s_sPut, s_revL, s_revT, s_listL, s_listT, s_tupleL, s_tupleT, s_isDicLst, s_isDicTup, s_isDicInt, wipeE_nil, wipeE_cons, this]
    rfl
  have hS := h.sg.len
  have mA := mkLst_ev (ds := (S.map (·.1)).map D.str) (by rw [List.length_map, List.length_map]; omega)
  have mB := mkLst_ev (ds := (S.map (·.2.1)).map D.str) (by rw [List.length_map, List.length_map]; omega)
  have ad : addD (.lst ((S.map (·.1)).map .str)) (.lst ((S.map (·.2.1)).map .str)) = some (.lst ((S.map (·.1) ++ S.map (·.2.1)).map .str)) := by
    rw [add_lst (by rw [List.length_map, List.length_map, List.length_map, List.length_map]; omega), List.map_append]
  have ss : setSortD (.lst ((S.map (·.1) ++ S.map (·.2.1)).map .str)) = some (.lst ((namesL S).map .str)) := setSort_strs (by rw [List.length_append, List.length_map, List.length_map]; omega)
  unfold fo0
  simp only [s_sSeq, s_sSetM, s_cC, omS, obS, List.set_cons_succ, List.set_cons_zero]
  unfold fo1
  rw [s_sSeq, s_sFor]
  simp only [s_cWalk, s_cIx, s_cV0, s_cC, obS, j0, wK]
  have eK : forD (gT (gsCons (gN 2) (gsCons (gT (gsCons (gN 3) (gsCons (gN 4) gsNil))) gsNil))) (foC0 F) (K.map knD) [some (svD K S), some (.dic false []), none, none, none, none, none, none, none, none, none, none, none] = _ := eK
  rw [eK]
  simp only [obS]
  unfold fo2
  rw [s_sSeq, s_sAsg, s_cU, s_cB, s_cLc]
  simp only [s_cWalk, s_cIx, s_cV0, s_cC, obS, j1, wS, wipeE_cons, wipeE_nil, List.set_cons_succ, List.set_cons_zero]
  rw [lA]
  simp only [obS, mA]
  rw [s_cLc]
  simp only [s_cWalk, s_cIx, s_cV0, s_cC, obS, j1, wS, wipeE_cons, wipeE_nil, List.set_cons_succ, List.set_cons_zero]
  rw [lB]
  simp only [obS, mB, ad, ss, s_gN, omS, List.set_cons_succ, List.set_cons_zero]
  unfold fo3
  simp only [s_sSeq, s_sAsg, s_cC, obS, s_gN, omS, List.set_cons_succ, List.set_cons_zero]
  unfold fo4
  rw [s_sSeq]
  have q3 : sWhile _ foD0 F [some (svD K S), some (asD entD (K.map knE)), y2, y3, y4, some (.lst ((namesL S).map .str)), some (.int 0), none, none, none, none, none, none] = _ := q3
  rw [q3]
  simp only [obS]
  unfold fo5
  rw [s_sSeq, s_sRet, s_cVs, s_cV0]
  rfl
end L
end
section
open PySem PySem.Spec PyProof.Rows L2 RE
namespace RE
theorem ne_wy (p q : Int × Int) : neD (wy p) (wy q) = some (.bl (!decide (p = q))) := by
  have e : eqv (wy p) (wy q) = decide (p = q) := by
    obtain ⟨a, b⟩ := p
    obtain ⟨c, d⟩ := q
    simp [eqv, wy, toP, toPs, PyData.eqv, PyData.eqvAll]
    by_cases h1 : a = c <;> by_cases h2 : b = d <;> simp [h1, h2]
  have p1 : pd2 (wy p) (wy q) = true := rfl
  unfold neD
  rw [p1, if_pos rfl, e]
theorem fdN (a b : Nat) (hb : b ≠ 0) (hs : b < 2 ^ 20) : fdivD (natD a) (.int (b : Int)) = some (natD (a / b)) := by
  have : fdivD (natD a) (.int (b : Int)) = some (.int ((a : Int).fdiv (b : Int))) := fdiv_ev (by omega) (wid_of (k := 20) (by omega) (by decide))
  rw [this]
  congr 2
  rw [Int.fdiv_eq_ediv_of_nonneg _ (by omega)]
  exact (Int.natCast_ediv a b).symm
theorem s_sSetIf (i : Nat) (c : SB) (f : SE) (F : Fn) (ρ : RE.Env) : sSetIf i c f F ρ = (c F ρ).bind fun b => if b then (cV i F ρ).map fun _ => .nx ρ else (f F ρ).map fun d => .nx (ρ.set i (some d)) := (rfl)
/-- sorted, where the things can be read back -/
theorem sort_back {α : Type} (f : α → D) (inv : D → α) (hi : ∀ a, inv (f a) = a) {l : List α} (ok : sortOk (l.map f) = true) : ∃ l' : List α, sortedD (.lst (l.map f)) = some (.lst (l'.map f)) ∧ l'.Perm l := by
  have pm : (sortL (l.map f)).Perm (l.map f) := List.mergeSort_perm _ _
  refine ⟨(sortL (l.map f)).map inv, ?_, ?_⟩
  · have e : sortedD (.lst (l.map f)) = if sortOk (l.map f) then some (.lst (sortL (l.map f))) else none := rfl
    rw [e, if_pos ok, List.map_map]
    congr 2
    conv => lhs; rw [← List.map_id (sortL (l.map f))]
    refine List.map_congr_left fun d hd => ?_
    obtain ⟨a, _, rfl⟩ := List.mem_map.mp (pm.mem_iff.mp hd)
    show f a = f (inv (f a))
    rw [hi]
  · have := pm.map inv
    rw [List.map_map] at this
    have e : (l.map (inv ∘ f)) = l := by
      conv => rhs; rw [← List.map_id l]
      exact List.map_congr_left fun a _ => hi a
    rwa [e] at this
def knInv : D → Rwy
  | .tup [.str s, .tup [.int a, .int b]] => (s, (a, b))
  | _ => (⟨#[]⟩, (0, 0))
def sgInv : D → Sg
  | .tup [.str s, .str t, .tup [.int a, .int b]] => (s, t, (a, b))
  | _ => (⟨#[]⟩, ⟨#[]⟩, (0, 0))
theorem kn_sort {l : List Rwy} (hl : l.length ≤ 1000) : ∃ l' : List Rwy, sortedD (.lst (l.map knD)) = some (.lst (l'.map knD)) ∧ l'.Perm l := by
  refine sort_back knD knInv (fun a => rfl) ?_
  unfold sortOk
  have h1 : (l.map knD).all (pd 60) = true := by
    rw [List.all_eq_true]; intro x hx
    obtain ⟨p, _, rfl⟩ := List.mem_map.mp hx
    rfl
  have h2 : ((l.map knD).all fun d => (l.map knD).all fun e => alk d e) = true := by
    rw [List.all_eq_true]; intro x hx
    obtain ⟨p, _, rfl⟩ := List.mem_map.mp hx
    rw [List.all_eq_true]; intro y hy
    obtain ⟨q, _, rfl⟩ := List.mem_map.mp hy
    rfl
  have h3 : (l.map knD).all isTup1 = true := by
    rw [List.all_eq_true]; intro x hx
    obtain ⟨p, _, rfl⟩ := List.mem_map.mp hx
    rfl
  rw [h1, h2, h3, fits_of (by rw [List.length_map]; omega)]; rfl
theorem sg_sort {l : List Sg} (hl : l.length ≤ 1000) : ∃ l' : List Sg, sortedD (.lst (l.map sgD)) = some (.lst (l'.map sgD)) ∧ l'.Perm l := by
  refine sort_back sgD sgInv (fun a => rfl) ?_
  unfold sortOk
  have h1 : (l.map sgD).all (pd 60) = true := by
    rw [List.all_eq_true]; intro x hx
    obtain ⟨p, _, rfl⟩ := List.mem_map.mp hx
    rfl
  have h2 : ((l.map sgD).all fun d => (l.map sgD).all fun e => alk d e) = true := by
    rw [List.all_eq_true]; intro x hx
    obtain ⟨p, _, rfl⟩ := List.mem_map.mp hx
    rw [List.all_eq_true]; intro y hy
    obtain ⟨q, _, rfl⟩ := List.mem_map.mp hy
    rfl
  have h3 : (l.map sgD).all isTup1 = true := by
    rw [List.all_eq_true]; intro x hx
    obtain ⟨p, _, rfl⟩ := List.mem_map.mp hx
    rfl
  rw [h1, h2, h3, fits_of (by rw [List.length_map]; omega)]; rfl
/-! the ten names, where they stand -/
def nmL : List Str := ["ann", "bo", "cy", "di", "eve", "box", "cat", "dog", "elk", "fox"]
def nm (i : Nat) : Str := nmL.getD i "ann"
theorem nm_nd : nmL.Nodup := by decide +kernel
theorem nm_map : (List.range 10).map nm = nmL := by decide +kernel
theorem nm_inj {i j : Nat} (hi : i < 10) (hj : j < 10) (h : nm i = nm j) : i = j := by
  have h2 : nmL[i]? = some (nm i) := by unfold nm; rw [List.getD_eq_getElem?_getD]; rw [List.getElem?_eq_getElem (show i < nmL.length from hi)]; rfl
  have h3 : nmL[j]? = some (nm j) := by unfold nm; rw [List.getD_eq_getElem?_getD]; rw [List.getElem?_eq_getElem (show j < nmL.length from hj)]; rfl
  exact (List.getElem?_inj (show i < nmL.length from hi) nm_nd).mp (by rw [h2, h3, h])
theorem nm_mem {i : Nat} (hi : i < 10) : nm i ∈ nmL := by
  rw [← nm_map]
  exact List.mem_map.mpr ⟨i, List.mem_range.mpr hi, rfl⟩
def stP (ds : List Nat) (k : Nat) : Int × Int := (((ds.getD k 0 % 81 : Nat) : Int) - 40, ((ds.getD k 0 / 81 % 81 : Nat) : Int) - 40)
def spL (ds : List Nat) : List (Str × (Int × Int)) := (List.range 10).map fun k => (nm k, stP ds k)
theorem stP_b (ds : List Nat) (k : Nat) : (stP ds k).1.natAbs ≤ 40 ∧ (stP ds k).2.natAbs ≤ 40 := by
  unfold stP
  have h1 := Nat.mod_lt (ds.getD k 0) (show 0 < 81 by decide)
  have h2 := Nat.mod_lt (ds.getD k 0 / 81) (show 0 < 81 by decide)
  constructor
  · show (((ds.getD k 0 % 81 : Nat) : Int) - 40).natAbs ≤ 40; omega
  · show (((ds.getD k 0 / 81 % 81 : Nat) : Int) - 40).natAbs ≤ 40; omega
theorem sp_keys (ds : List Nat) : (spL ds).map (·.1) = nmL := by
  unfold spL
  rw [List.map_map, ← nm_map]
  rfl
theorem sp_get (ds : List Nat) {k : Nat} (hk : k < 10) : getA (spL ds) (nm k) = some (stP ds k) := getA_of (by rw [sp_keys]; exact nm_nd) (List.mem_map.mpr ⟨k, List.mem_range.mpr hk, rfl⟩)
def dfP (p q : Int × Int) : Int × Int := (q.1 - p.1, q.2 - p.2)
theorem dfP_ne {p q : Int × Int} (h : p ≠ q) : dfP p q ≠ (0, 0) := fun e => h (by
  unfold dfP at e
  have h1 := congrArg Prod.fst e
  have h2 := congrArg Prod.snd e
  simp only at h1 h2
  exact Prod.ext (by omega) (by omega))
/-- the k-th sight that may be -/
def rowK (ds : List Nat) (k : Nat) : Sg := (nm (k / 5), nm (5 + k % 5), lowI (dfP (stP ds (k / 5)) (stP ds (5 + k % 5))))
/-- the k-th known one -/
def knK (ds : List Nat) (k : Nat) : Rwy := (nm k, stP ds k)
/-- a true survey -/
structure TrueSv (ds : List Nat) (K : List Rwy) (S : List Sg) : Prop where
  kn : ∃ l : List Nat, l ≠ [] ∧ l.Pairwise (· < ·) ∧ (∀ i ∈ l, i < 10) ∧ l.length ≤ 6 ∧ K.Perm (l.map (knK ds))
  sg : ∃ l : List Nat, l.Pairwise (· < ·) ∧ (∀ i ∈ l, i < 25) ∧ l.length ≤ 16 ∧ (∀ i ∈ l, stP ds (i / 5) ≠ stP ds (5 + i % 5)) ∧ S.Perm (l.map (rowK ds))
theorem pair_inj {i j : Nat} (hi : i < 25) (hj : j < 25) (h1 : nm (i / 5) = nm (j / 5)) (h2 : nm (5 + i % 5) = nm (5 + j % 5)) : i = j := by
  have a := nm_inj (by omega) (by omega) h1
  have b := nm_inj (by omega) (by omega) h2
  omega
theorem TrueSv.ok {ds : List Nat} {K : List Rwy} {S : List Sg} (h : TrueSv ds K S) : SvOk K S nmL := by
  obtain ⟨l, l1, l2, l3, l4, l5⟩ := h.kn
  obtain ⟨m, m1, m2, m3, m4, m5⟩ := h.sg
  have bits : ∀ x : Int, x.natAbs ≤ 80 → x.natAbs < 2 ^ 7 := fun x hx => by
    have : (80 : Nat) < 2 ^ 7 := by decide
    omega
  have sgm : ∀ s ∈ S, ∃ i ∈ m, s = rowK ds i := fun s hs => by
    obtain ⟨i, hi, e⟩ := List.mem_map.mp (m5.mem_iff.mp hs)
    exact ⟨i, hi, e.symm⟩
  have low : ∀ i ∈ m, Prim (rowK ds i).2.2 ∧ (rowK ds i).2.2.1.natAbs < 2 ^ 7 ∧ (rowK ds i).2.2.2.natAbs < 2 ^ 7 := fun i hi => by
    obtain ⟨p1, p2, p3⟩ := low_prim (dfP_ne (m4 i hi))
    obtain ⟨a1, a2⟩ := stP_b ds (i / 5)
    obtain ⟨b1, b2⟩ := stP_b ds (5 + i % 5)
    have d1 : (dfP (stP ds (i / 5)) (stP ds (5 + i % 5))).1.natAbs ≤ 80 := by unfold dfP; simp only; omega
    have d2 : (dfP (stP ds (i / 5)) (stP ds (5 + i % 5))).2.natAbs ≤ 80 := by unfold dfP; simp only; omega
    exact ⟨p1, bits _ (Nat.le_trans p2 d1), bits _ (Nat.le_trans p3 d2)⟩
  refine ⟨⟨?_, ?_, ?_, ?_, ?_, ?_⟩, ?_, ?_, ?_, ?_, ?_, ?_, by decide⟩
  · rw [m5.length_eq, List.length_map]; omega
  · refine ((m5.map fun s => (s.1, s.2.1)).nodup_iff).mpr ?_
    rw [List.map_map]
    unfold List.Nodup
    rw [List.pairwise_map]
    refine m1.imp_of_mem fun {i j} hi hj hlt e => ?_
    have h1 := congrArg Prod.fst e
    have h2 := congrArg Prod.snd e
    have := pair_inj (m2 i hi) (m2 j hj) h1 h2
    omega
  · intro s hs
    obtain ⟨i, hi, rfl⟩ := sgm s hs
    exact (low i hi).1
  · intro s hs
    obtain ⟨i, hi, rfl⟩ := sgm s hs
    exact (low i hi).2.1
  · intro s hs
    obtain ⟨i, hi, rfl⟩ := sgm s hs
    exact (low i hi).2.2
  · intro s hs s' hs' e
    obtain ⟨i, hi, rfl⟩ := sgm s hs
    obtain ⟨j, hj, rfl⟩ := sgm s' hs'
    have := nm_inj (by have := m2 i hi; omega) (by omega) (show nm (i / 5) = nm (5 + j % 5) from e)
    have := m2 i hi
    omega
  · refine ((l5.map (·.1)).nodup_iff).mpr ?_
    rw [List.map_map]
    unfold List.Nodup
    rw [List.pairwise_map]
    refine l2.imp_of_mem fun {i j} hi hj hlt e => ?_
    have := nm_inj (l3 i hi) (l3 j hj) e
    omega
  · intro k hk
    obtain ⟨i, hi, rfl⟩ := List.mem_map.mp (l5.mem_iff.mp hk)
    exact bits _ (Nat.le_trans (stP_b ds i).1 (by decide))
  · intro k hk
    obtain ⟨i, hi, rfl⟩ := List.mem_map.mp (l5.mem_iff.mp hk)
    exact bits _ (Nat.le_trans (stP_b ds i).2 (by decide))
  · intro k hk
    obtain ⟨i, hi, rfl⟩ := List.mem_map.mp (l5.mem_iff.mp hk)
    exact nm_mem (l3 i hi)
  · intro s hs
    obtain ⟨i, hi, rfl⟩ := sgm s hs
    exact nm_mem (by have := m2 i hi; omega)
  · intro s hs
    obtain ⟨i, hi, rfl⟩ := sgm s hs
    exact nm_mem (by omega)
end RE
end
section
open PySem PySem.Spec PyProof.Rows L2 RE
namespace RE
theorem enum_rng {α : Type} (f : Nat → D) (n k : Nat) : enumL k ((List.range' k n).map f) = (List.range' k n).map fun i => .tup [natD i, f i] := by
  induction n generalizing k with
  | zero => rfl
  | succ n ih =>
    rw [List.range'_succ, List.map_cons, enumL, ih (k + 1), List.map_cons]
    rfl
theorem nm_enum : enumL 0 (nmL.map .str) = (List.range 10).map fun i => .tup [natD i, .str (nm i)] := by
  have := enum_rng (α := Nat) (fun i => D.str (nm i)) 10 0
  rw [← List.range_eq_range'] at this
  rw [← this, ← nm_map, List.map_map]
  rfl
theorem nm_idx {i : Nat} (hi : i < 10) : idxD (.tup (nmL.map .str)) (natD i) = some (.str (nm i)) := by
  have := idx_tup (l := nmL.map D.str) (i := i) (by rw [List.length_map]; exact hi)
  rw [List.getElem_map] at this
  refine this.trans ?_
  unfold nm
  rw [List.getD_eq_getElem?_getD, List.getElem?_eq_getElem (show i < nmL.length from hi)]
  rfl
theorem ds_idx {ds : List Nat} {i : Nat} (h : i < ds.length) : idxD (.lst (ds.map natD)) (natD i) = some (natD (ds.getD i 0)) := by
  have : idxD (.lst (ds.map natD)) (.int (i : Int)) = some (natD ds[i]) := idx_nat h
  rw [List.getD_eq_getElem?_getD, List.getElem?_eq_getElem h]
  exact this
theorem in_k {l : List Nat} {k : Nat} (h : l.Pairwise (· < ·)) (hl : ∀ i ∈ l, i < k) : (l ++ [k]).Pairwise (· < ·) := by
  rw [List.pairwise_append]
  exact ⟨h, by simp, fun a ha b hb => by rw [List.mem_singleton.mp hb]; exact hl a ha⟩
end RE
namespace L
theorem names_ev (n : Nat) : lvl (DT rows) (n + 1) "_law_names" [] = some (.tup (nmL.map .str)) := by
  rw [v__law_names]
  rfl
theorem spread_ev (n : Nat) {ds : List Nat} (hl : 10 ≤ ds.length) : lvl (DT rows) (n + 2) "_law_spread" [.lst (ds.map natD)] = some (asD wy (spL ds)) := by
  have fn := names_ev n
  rw [v__law_spread, sp_eq]
  generalize lvl (DT rows) (n + 1) = F at *
  have id : ∀ i, i < 10 → idxD (.lst (ds.map natD)) (natD i) = some (natD (ds.getD i 0)) := fun i hi => ds_idx (by omega)
  generalize hDS : D.lst (ds.map natD) = DS at *
  have loop : ∀ (l : List Nat) (M : List (Str × (Int × Int))) (x2 x3 : Option D), (∀ i ∈ l, i < 10) → ((M ++ l.map fun k => (nm k, stP ds k)).map (·.1)).Nodup → M.length + l.length ≤ 100 → ∃ y2 y3, forD (gT (gsCons (gN 2) (gsCons (gN 3) gsNil))) (spC0 F) (l.map fun i => .tup [natD i, .str (nm i)]) [some DS, some (asD wy M), x2, x3] = some (.nx [some DS, some (asD wy (M ++ l.map fun k => (nm k, stP ds k))), y2, y3]) := by
    intro l
    induction l with
    | nil => intro M x2 x3 _ _ _; exact ⟨x2, x3, by simp [forD]⟩
    | cons k l ih =>
      intro M x2 x3 hm nd hM
      rw [List.length_cons] at hM
      have hk := hm k List.mem_cons_self
      have g : getA M (nm k) = none := getA_none.mpr fun q => by
        rw [List.map_append, List.map_cons, List.map_cons] at nd
        exact (List.nodup_append.mp nd).2.2 _ q _ List.mem_cons_self rfl
      have i1 := id k hk
      have p := put_as wy g (by omega) (stP ds k)
      have m1 : modD (natD (ds.getD k 0)) (.int 81) = some (natD (ds.getD k 0 % 81)) := modN _ 81 (by decide)
      have d1 : fdivD (natD (ds.getD k 0)) (.int 81) = some (natD (ds.getD k 0 / 81)) := fdN _ 81 (by decide) (by decide)
      have m2 : modD (natD (ds.getD k 0 / 81)) (.int 81) = some (natD (ds.getD k 0 / 81 % 81)) := modN _ 81 (by decide)
      have s1 : subD (natD (ds.getD k 0 % 81)) (.int 40) = some (.int (stP ds k).1) := rfl
      have s2 : subD (natD (ds.getD k 0 / 81 % 81)) (.int 40) = some (.int (stP ds k).2) := rfl
      have em : D.tup [.int (stP ds k).1, .int (stP ds k).2] = wy (stP ds k) := rfl
      have ga : gT (gsCons (gN 2) (gsCons (gN 3) gsNil)) (.tup [natD k, .str (nm k)]) [some DS, some (asD wy M), x2, x3] = some [some DS, some (asD wy M), some (natD k), some (.str (nm k))] := rfl
      have st : spC0 F [some DS, some (asD wy M), some (natD k), some (.str (nm k))] = some (.nx [some DS, some (asD wy (M ++ [(nm k, stP ds k)])), some (natD k), some (.str (nm k))]) := by
        unfold spC0
        generalize asD wy (M ++ [(nm k, stP ds k)]) = M2 at *
        generalize asD wy M = MD at *
        simp only [s_sSeq, s_sNil, s_sRet, s_sRetT, s_sIf, s_sAsg, s_sPar, s_sSetM, s_cND, s_cC, s_cB, s_cU, s_cTup, s_cLst, s_cNil, s_cCons, s_cCall, s_cFn, s_cIx, s_cAnd, s_cOr, s_cNot, s_cIf, s_cTr, s_cBT, s_cAndT, s_cOrT, s_cNotT, s_cCh, s_cChT, s_cSl, s_sFor, s_cWalk, s_cLc, s_lcOne, s_cTrue, s_sApp, s_gN, s_gT, s_gsNil, s_gsCons, s_cV0, s_cVs, s_finR, s_finN, s_boolD, s_truB, s_setAll0, s_setAll1, s_op1, s_op2, s_abs, s_addI, s_subI, eqI, neI, ltI, gtI, leI, geI, mkTup1, mkTup2, mkTup3, idx_t0, idx_t1, idx_t2, obS, omS, List.set_cons_zero, List.set_cons_succ, s_cNone, s_cPart, s_intD, s_cRng1, s_walkL, s_walkT, s_lenT, s_lenL, s_lenS, s_slT, s_slL, if_true, if_false, decide_true, decide_false, Bool.not_true, Bool.not_false, Bool.and_true, Bool.and_false, Bool.true_and, Bool.false_and, Bool.false_eq_true, decide_eq_true_eq, s_cEnum, s_sPut, s_revL, s_revT, s_listL, s_listT, s_tupleL, s_tupleT, s_isDicLst, s_isDicTup, s_isDicInt, wipeE_nil, wipeE_cons, i1, m1, d1, m2, s1, s2, em, p]
      obtain ⟨y2, y3, e⟩ := ih (M ++ [(nm k, stP ds k)]) (some (natD k)) (some (.str (nm k))) (fun i hi => hm i (List.mem_cons_of_mem _ hi)) (by rw [List.append_assoc]; exact nd) (by rw [List.length_append, List.length_singleton]; omega)
      refine ⟨y2, y3, ?_⟩
      rw [List.map_cons, forD, ga, obS, st]
      simp only [obS]
      rw [e, List.append_assoc]
      rfl
  obtain ⟨y2, y3, e⟩ := loop (List.range 10) [] none none (fun i hi => List.mem_range.mp hi) (by
    rw [List.nil_append]
    have := sp_keys ds
    unfold spL at this
    rw [this]
    exact nm_nd) (by simp)
  rw [List.nil_append] at e
  have ne := nm_enum
  unfold sp0
  simp only [s_sSeq, s_sSetM, s_cC, omS, obS, List.set_cons_succ, List.set_cons_zero]
  unfold sp1
  rw [s_sSeq, s_sFor, s_cEnum, s_cFn]
  simp only [s_cNil, obS, fn, s_walkT, omS, ne]
  have e : forD (gT (gsCons (gN 2) (gsCons (gN 3) gsNil))) (spC0 F) ((List.range 10).map fun i => .tup [natD i, .str (nm i)]) [some DS, some (.dic false []), none, none] = _ := e
  rw [e]
  simp only [obS]
  unfold sp2
  rw [s_sSeq, s_sRet, s_cVs, s_cV0]
  rfl
theorem survey_ev (n : Nat) {ds : List Nat} (hl : ds.length = 60) : ∃ K S, TrueSv ds K S ∧ lvl (DT rows) (n + 3) "_law_survey" [.lst (ds.map natD)] = some (.tup [svD K S, asD wy (spL ds)]) := by
  have fn := names_ev (n + 1)
  have fs := spread_ev n (ds := ds) (by omega)
  have c80 : 80 < 2 ^ 20 := by decide
  have fl : ∀ p : Int × Int, p ≠ (0, 0) → p.1.natAbs ≤ 80 → p.2.natAbs ≤ 80 → lvl (DT rows) (n + 2) "_law_lowest" [wy p] = some (wy (lowI p)) := fun p h h1 h2 => lowest_ev n h (Nat.lt_of_le_of_lt h1 c80) (Nat.lt_of_le_of_lt h2 c80)
  rw [v__law_survey, su_eq]
  generalize lvl (DT rows) (n + 2) = F at *
  have id : ∀ i, i < 60 → idxD (.lst (ds.map natD)) (natD i) = some (natD (ds.getD i 0)) := fun i hi => ds_idx (by omega)
  generalize hDS : D.lst (ds.map natD) = DS at *
  generalize hSP : asD wy (spL ds) = SP at *
  have sp : ∀ i, i < 10 → idxD SP (.str (nm i)) = some (wy (stP ds i)) := fun i hi => by rw [← hSP]; exact idx_as wy (sp_get ds hi)
  have ni : ∀ i, i < 10 → idxD (.tup (nmL.map .str)) (natD i) = some (.str (nm i)) := fun i hi => nm_idx hi
  have wNM : walkL (.tup (nmL.map .str)) = some (nmL.map .str) := rfl
  generalize D.tup (nmL.map .str) = NM at *
  -- the sights
  have loop1 : ∀ (ks : List Nat) (m : Nat) (l : List Nat) (x3 x4 x5 x6 x7 : Option D), ks = List.range' m (25 - m) → m ≤ 25 → l.Pairwise (· < ·) → (∀ i ∈ l, i < m) → l.length ≤ 16 → (∀ i ∈ l, stP ds (i / 5) ≠ stP ds (5 + i % 5)) →
      ∃ (l' : List Nat) (y3 y4 y5 y6 y7 : Option D), l'.Pairwise (· < ·) ∧ (∀ i ∈ l', i < 25) ∧ l'.length ≤ 16 ∧ (∀ i ∈ l', stP ds (i / 5) ≠ stP ds (5 + i % 5)) ∧ forD (gN 3) (suC0 F) (ks.map natD) [some DS, some SP, some (.lst ((l.map (rowK ds)).map sgD)), x3, x4, x5, x6, x7, none, none] = some (.nx [some DS, some SP, some (.lst ((l'.map (rowK ds)).map sgD)), y3, y4, y5, y6, y7, none, none]) := by
    intro ks
    induction ks with
    | nil =>
      intro m l x3 x4 x5 x6 x7 hks hm h1 h2 h3 h4
      have : 25 - m = 0 := by
        have := congrArg List.length hks
        rw [List.length_range'] at this
        exact this.symm
      exact ⟨l, x3, x4, x5, x6, x7, h1, fun i hi => by have := h2 i hi; omega, h3, h4, rfl⟩
    | cons k ks ih =>
      intro m l x3 x4 x5 x6 x7 hks hm h1 h2 h3 h4
      have hlt : m < 25 := by
        have := congrArg List.length hks
        rw [List.length_range', List.length_cons] at this
        omega
      rw [show 25 - m = (25 - (m + 1)) + 1 by omega, List.range'_succ] at hks
      injection hks with hk hks
      subst hk
      have a1 : fdivD (natD k) (.int 5) = some (natD (k / 5)) := fdN k 5 (by decide) (by decide)
      have a2 : modD (natD k) (.int 5) = some (natD (k % 5)) := modN k 5 (by decide)
      have a3 : addD (.int 5) (natD (k % 5)) = some (natD (5 + k % 5)) := rfl
      have n1 := ni (k / 5) (by omega)
      have n2 := ni (5 + k % 5) (by omega)
      have p1 := sp (k / 5) (by omega)
      have p2 := sp (5 + k % 5) (by omega)
      have nw := ne_wy (stP ds (k / 5)) (stP ds (5 + k % 5))
      have ll : lenD (.lst ((l.map (rowK ds)).map sgD)) = some (.int (l.length : Int)) := by rw [s_lenL, List.length_map, List.length_map]
      have lt16 : ltD (.int (l.length : Int)) (.int 16) = some (.bl (decide (l.length < 16))) := by
        have : ltD (.int (l.length : Int)) (.int 16) = some (.bl (decide ((l.length : Int) < 16))) := ltI _ _
        rw [this]
        exact congrArg (fun b => some (D.bl b)) (decide_eq_decide.mpr (by omega))
      have a4 : addD (.int 10) (natD k) = some (natD (10 + k)) := rfl
      have i4 := id (10 + k) (by omega)
      have a5 : modD (natD (ds.getD (10 + k) 0)) (.int 4) = some (natD (ds.getD (10 + k) 0 % 4)) := modN _ 4 (by decide)
      have a6 : gtD (natD (ds.getD (10 + k) 0 % 4)) (.int 0) = some (.bl (decide (0 < ds.getD (10 + k) 0 % 4))) := by
        have : gtD (natD (ds.getD (10 + k) 0 % 4)) (.int 0) = some (.bl (decide ((0 : Int) < ((ds.getD (10 + k) 0 % 4 : Nat) : Int)))) := gtI _ _
        rw [this]
        exact congrArg (fun b => some (D.bl b)) (decide_eq_decide.mpr (by omega))
      have pre : suC0 F [some DS, some SP, some (.lst ((l.map (rowK ds)).map sgD)), some (natD k), x4, x5, x6, x7, none, none] = suC2 F [some DS, some SP, some (.lst ((l.map (rowK ds)).map sgD)), some (natD k), some (.str (nm (k / 5))), some (.str (nm (5 + k % 5))), some (wy (stP ds (k / 5))), some (wy (stP ds (5 + k % 5))), none, none] := by
        generalize D.lst ((l.map (rowK ds)).map sgD) = LD at *
        unfold suC0
        simp only [s_sSeq, s_sNil, s_sRet, s_sRetT, s_sIf, s_sAsg, s_sPar, s_sSetM, s_cND, s_cC, s_cB, s_cU, s_cTup, s_cLst, s_cNil, s_cCons, s_cCall, s_cFn, s_cIx, s_cAnd, s_cOr, s_cNot, s_cIf, s_cTr, s_cBT, s_cAndT, s_cOrT, s_cNotT, s_cCh, s_cChT, s_cSl, s_sFor, s_cWalk, s_cLc, s_lcOne, s_cTrue, s_sApp, s_gN, s_gT, s_gsNil, s_gsCons, s_cV0, s_cVs, s_finR, s_finN, s_boolD, s_truB, s_setAll0, s_setAll1, s_op1, s_op2, s_abs, s_addI, s_subI, eqI, neI, ltI, gtI, leI, geI, mkTup1, mkTup2, mkTup3, idx_t0, idx_t1, idx_t2, obS, omS, List.set_cons_zero, List.set_cons_succ, s_cNone, s_cPart, s_intD, s_cRng1, s_walkL, s_walkT, s_lenT, s_lenL, s_lenS, s_slT, s_slL, if_true, if_false, decide_true, decide_false, Bool.not_true, Bool.not_false, Bool.and_true, Bool.and_false, Bool.true_and, Bool.false_and, Bool.false_eq_true, decide_eq_true_eq, s_cEnum, s_sPut, s_revL, s_revT, s_listL, s_listT, s_tupleL, s_tupleT, s_isDicLst, s_isDicTup, s_isDicInt, wipeE_nil, wipeE_cons, fn, a1, a2, a3, n1, n2]
        unfold suC1
        simp only [s_sSeq, s_sNil, s_sRet, s_sRetT, s_sIf, s_sAsg, s_sPar, s_sSetM, s_cND, s_cC, s_cB, s_cU, s_cTup, s_cLst, s_cNil, s_cCons, s_cCall, s_cFn, s_cIx, s_cAnd, s_cOr, s_cNot, s_cIf, s_cTr, s_cBT, s_cAndT, s_cOrT, s_cNotT, s_cCh, s_cChT, s_cSl, s_sFor, s_cWalk, s_cLc, s_lcOne, s_cTrue, s_sApp, s_gN, s_gT, s_gsNil, s_gsCons, s_cV0, s_cVs, s_finR, s_finN, s_boolD, s_truB, s_setAll0, s_setAll1, s_op1, s_op2, s_abs, s_addI, s_subI, eqI, neI, ltI, gtI, leI, geI, mkTup1, mkTup2, mkTup3, idx_t0, idx_t1, idx_t2, obS, omS, List.set_cons_zero, List.set_cons_succ, s_cNone, s_cPart, s_intD, s_cRng1, s_walkL, s_walkT, s_lenT, s_lenL, s_lenS, s_slT, s_slL, if_true, if_false, decide_true, decide_false, Bool.not_true, Bool.not_false, Bool.and_true, Bool.and_false, Bool.true_and, Bool.false_and, Bool.false_eq_true, decide_eq_true_eq, s_cEnum, s_sPut, s_revL, s_revT, s_listL, s_listT, s_tupleL, s_tupleT, s_isDicLst, s_isDicTup, s_isDicInt, wipeE_nil, wipeE_cons, p1, p2]
      have step : ∃ l2 : List Nat, l2.Pairwise (· < ·) ∧ (∀ i ∈ l2, i < k + 1) ∧ l2.length ≤ 16 ∧ (∀ i ∈ l2, stP ds (i / 5) ≠ stP ds (5 + i % 5)) ∧ suC0 F [some DS, some SP, some (.lst ((l.map (rowK ds)).map sgD)), some (natD k), x4, x5, x6, x7, none, none] = some (.nx [some DS, some SP, some (.lst ((l2.map (rowK ds)).map sgD)), some (natD k), some (.str (nm (k / 5))), some (.str (nm (5 + k % 5))), some (wy (stP ds (k / 5))), some (wy (stP ds (5 + k % 5))), none, none]) := by
        rw [pre]
        by_cases c : stP ds (k / 5) ≠ stP ds (5 + k % 5) ∧ l.length < 16 ∧ 0 < ds.getD (10 + k) 0 % 4
        · obtain ⟨c1, c2, c3⟩ := c
          rw [decide_eq_false c1] at nw
          rw [decide_eq_true c2] at lt16
          rw [decide_eq_true c3] at a6
          obtain ⟨b1, b2⟩ := stP_b ds (k / 5)
          obtain ⟨b3, b4⟩ := stP_b ds (5 + k % 5)
          have f := fl (dfP (stP ds (k / 5)) (stP ds (5 + k % 5))) (dfP_ne c1) (by unfold dfP; simp only; omega) (by unfold dfP; simp only; omega)
          have j1 := idx_w0 (stP ds (k / 5))
          have j2 := idx_w1 (stP ds (k / 5))
          have j3 := idx_w0 (stP ds (5 + k % 5))
          have j4 := idx_w1 (stP ds (5 + k % 5))
          have em : D.tup [.int ((stP ds (5 + k % 5)).1 - (stP ds (k / 5)).1), .int ((stP ds (5 + k % 5)).2 - (stP ds (k / 5)).2)] = wy (dfP (stP ds (k / 5)) (stP ds (5 + k % 5))) := rfl
          have er : D.tup [.str (nm (k / 5)), .str (nm (5 + k % 5)), wy (lowI (dfP (stP ds (k / 5)) (stP ds (5 + k % 5))))] = sgD (rowK ds k) := rfl
          have ft : fits (((l.map (rowK ds)).map sgD).length + 1) = true := fits_of (by rw [List.length_map, List.length_map]; omega)
          have el : D.lst (((l.map (rowK ds)).map sgD) ++ [sgD (rowK ds k)]) = .lst (((l ++ [k]).map (rowK ds)).map sgD) := by rw [List.map_append, List.map_append]; rfl
          refine ⟨l ++ [k], in_k h1 h2, fun i hi => ?_, by rw [List.length_append, List.length_singleton]; omega, fun i hi => ?_, ?_⟩
          · rcases List.mem_append.mp hi with hi | hi
            · have := h2 i hi; omega
            · rw [List.mem_singleton.mp hi]; omega
          · rcases List.mem_append.mp hi with hi | hi
            · exact h4 i hi
            · rw [List.mem_singleton.mp hi]; exact c1
          · unfold suC2
            generalize wy (stP ds (k / 5)) = W1 at *
            generalize wy (stP ds (5 + k % 5)) = W2 at *
            simp only [s_sSeq, s_sNil, s_sRet, s_sRetT, s_sIf, s_sAsg, s_sPar, s_sSetM, s_cND, s_cC, s_cB, s_cU, s_cTup, s_cLst, s_cNil, s_cCons, s_cCall, s_cFn, s_cIx, s_cAnd, s_cOr, s_cNot, s_cIf, s_cTr, s_cBT, s_cAndT, s_cOrT, s_cNotT, s_cCh, s_cChT, s_cSl, s_sFor, s_cWalk, s_cLc, s_lcOne, s_cTrue, s_sApp, s_gN, s_gT, s_gsNil, s_gsCons, s_cV0, s_cVs, s_finR, s_finN, s_boolD, s_truB, s_setAll0, s_setAll1, s_op1, s_op2, s_abs, s_addI, s_subI, eqI, neI, ltI, gtI, leI, geI, mkTup1, mkTup2, mkTup3, idx_t0, idx_t1, idx_t2, obS, omS, List.set_cons_zero, List.set_cons_succ, s_cNone, s_cPart, s_intD, s_cRng1, s_walkL, s_walkT, s_lenT, s_lenL, s_lenS, s_slT, s_slL, if_true, if_false, decide_true, decide_false, Bool.not_true, Bool.not_false, Bool.and_true, Bool.and_false, Bool.true_and, Bool.false_and, Bool.false_eq_true, decide_eq_true_eq, s_cEnum, s_sPut, s_revL, s_revT, s_listL, s_listT, s_tupleL, s_tupleT, s_isDicLst, s_isDicTup, s_isDicInt, wipeE_nil, wipeE_cons, nw, ll, lt16, a4, i4, a5, a6, j1, j2, j3, j4, em, f, er, ft, el]
        · refine ⟨l, h1, fun i hi => Nat.lt_succ_of_lt (h2 i hi), h3, h4, ?_⟩
          unfold suC2
          generalize hb1 : decide (stP ds (k / 5) = stP ds (5 + k % 5)) = b1 at *
          generalize hb2 : decide (l.length < 16) = b2 at *
          generalize hb3 : decide (0 < ds.getD (10 + k) 0 % 4) = b3 at *
          have cc : b1 = true ∨ b2 = false ∨ b3 = false := by
            cases b1 with
            | true => exact .inl rfl
            | false =>
              cases b2 with
              | false => exact .inr (.inl rfl)
              | true =>
                cases b3 with
                | false => exact .inr (.inr rfl)
                | true => exact absurd ⟨of_decide_eq_false hb1, of_decide_eq_true hb2, of_decide_eq_true hb3⟩ c
          generalize D.lst ((l.map (rowK ds)).map sgD) = LD at *
          generalize wy (stP ds (k / 5)) = W1 at *
          generalize wy (stP ds (5 + k % 5)) = W2 at *
          cases b1 <;> cases b2 <;> cases b3 <;> first | (simp only [s_sSeq, s_sNil, s_sRet, s_sRetT, s_sIf, s_sAsg, s_sPar, s_sSetM, s_cND, s_cC, s_cB, s_cU, s_cTup, s_cLst, s_cNil, s_cCons, s_cCall, s_cFn, s_cIx, s_cAnd, s_cOr, s_cNot, s_cIf, s_cTr, s_cBT, s_cAndT, s_cOrT, s_cNotT, s_cCh, s_cChT, s_cSl, s_sFor, s_cWalk, s_cLc, s_lcOne, s_cTrue, s_sApp, s_gN, s_gT, s_gsNil, s_gsCons, s_cV0, s_cVs, s_finR, s_finN, s_boolD, s_truB, s_setAll0, s_setAll1, s_op1, s_op2, s_abs, s_addI, s_subI, eqI, neI, ltI, gtI, leI, geI, mkTup1, mkTup2, mkTup3, idx_t0, idx_t1, idx_t2, obS, omS, List.set_cons_zero, List.set_cons_succ, s_cNone, s_cPart, s_intD, s_cRng1, s_walkL, s_walkT, s_lenT, s_lenL, s_lenS, s_slT, s_slL, if_true, if_false, decide_true, decide_false, Bool.not_true, Bool.not_false, Bool.and_true, Bool.and_false, Bool.true_and, Bool.false_and, Bool.false_eq_true, decide_eq_true_eq, s_cEnum, s_sPut, s_revL, s_revT, s_listL, s_listT, s_tupleL, s_tupleT, s_isDicLst, s_isDicTup, s_isDicInt, wipeE_nil, wipeE_cons, nw, ll, lt16, a4, i4, a5, a6]; done) | (exfalso; simp at cc)
      obtain ⟨l2, q1, q2, q3, q4, e⟩ := step
      obtain ⟨l', y3, y4, y5, y6, y7, r1, r2, r3, r4, r5⟩ := ih (k + 1) l2 (some (natD k)) (some (.str (nm (k / 5)))) (some (.str (nm (5 + k % 5)))) (some (wy (stP ds (k / 5)))) (some (wy (stP ds (5 + k % 5)))) hks (by omega) q1 q2 q3 q4
      refine ⟨l', y3, y4, y5, y6, y7, r1, r2, r3, r4, ?_⟩
      rw [List.map_cons, forD, s_gN, obS]
      simp only [List.set_cons_succ, List.set_cons_zero]
      rw [e]
      simp only [obS]
      exact r5
  obtain ⟨ls, y3, y4, y5, y6, y7, r1, r2, r3, r4, r5⟩ := loop1 (List.range' 0 (25 - 0)) 0 [] none none none none none rfl (by decide) List.Pairwise.nil (fun _ h => (nomatch h)) (by simp) (fun _ h => (nomatch h))
  have rr : (List.range' 0 (25 - 0)) = List.range 25 := by rw [List.range_eq_range']
  rw [rr] at r5
  -- the known ones
  have i35 : idxD DS (.int 35) = some (natD (ds.getD 35 0)) := id 35 (by decide)
  have m35 : modD (natD (ds.getD 35 0)) (.int 4) = some (natD (ds.getD 35 0 % 4)) := modN _ 4 (by decide)
  have l4 : ∃ q : Nat, q ≤ 6 ∧ idxD (.lst [.int 6, .int 2, .int 3, .int 4]) (natD (ds.getD 35 0 % 4)) = some (natD q) := by
    have hq : ds.getD 35 0 % 4 < 4 := Nat.mod_lt _ (by decide)
    generalize ds.getD 35 0 % 4 = q at *
    match q, hq with
    | 0, _ => exact ⟨6, by decide, rfl⟩
    | 1, _ => exact ⟨2, by decide, rfl⟩
    | 2, _ => exact ⟨3, by decide, rfl⟩
    | 3, _ => exact ⟨4, by decide, rfl⟩
  obtain ⟨q, hq, l4⟩ := l4
  have mk4 : mkLst [.int 6, .int 2, .int 3, .int 4] = some (.lst [.int 6, .int 2, .int 3, .int 4]) := rfl
  generalize hRL : D.lst ((ls.map (rowK ds)).map sgD) = RL at *
  have loop2 : ∀ (ks : List Nat) (m : Nat) (l : List Nat) (x3 x9 : Option D), ks = List.range' m (10 - m) → m ≤ 10 → l.Pairwise (· < ·) → (∀ i ∈ l, i < m) → l.length ≤ 6 →
      ∃ (l' : List Nat) (z3 z9 : Option D), l'.Pairwise (· < ·) ∧ (∀ i ∈ l', i < 10) ∧ l'.length ≤ 6 ∧ forD (gT (gsCons (gN 3) (gsCons (gN 9) gsNil))) (suD0 F) (ks.map fun i => .tup [natD i, .str (nm i)]) [some DS, some SP, some RL, x3, y4, y5, y6, y7, some (.lst ((l.map (knK ds)).map knD)), x9] = some (.nx [some DS, some SP, some RL, z3, y4, y5, y6, y7, some (.lst ((l'.map (knK ds)).map knD)), z9]) := by
    intro ks
    induction ks with
    | nil =>
      intro m l x3 x9 hks hm h1 h2 h3
      have : 10 - m = 0 := by
        have := congrArg List.length hks
        rw [List.length_range'] at this
        exact this.symm
      exact ⟨l, x3, x9, h1, fun i hi => by have := h2 i hi; omega, h3, rfl⟩
    | cons k ks ih =>
      intro m l x3 x9 hks hm h1 h2 h3
      have hlt : m < 10 := by
        have := congrArg List.length hks
        rw [List.length_range', List.length_cons] at this
        omega
      rw [show 10 - m = (10 - (m + 1)) + 1 by omega, List.range'_succ] at hks
      injection hks with hk hks
      subst hk
      have p1 := sp k hlt
      have ll : lenD (.lst ((l.map (knK ds)).map knD)) = some (natD l.length) := by rw [s_lenL, List.length_map, List.length_map]; rfl
      have ltq : ltD (natD l.length) (natD q) = some (.bl (decide (l.length < q))) := by
        have : ltD (natD l.length) (natD q) = some (.bl (decide ((l.length : Int) < (q : Int)))) := ltI _ _
        rw [this]
        exact congrArg (fun b => some (D.bl b)) (decide_eq_decide.mpr (by omega))
      have a4 : addD (.int 36) (natD k) = some (natD (36 + k)) := rfl
      have i4 := id (36 + k) (by omega)
      have a5 : modD (natD (ds.getD (36 + k) 0)) (.int 3) = some (natD (ds.getD (36 + k) 0 % 3)) := modN _ 3 (by decide)
      have a6 : eqD (natD (ds.getD (36 + k) 0 % 3)) (.int 0) = some (.bl (decide (ds.getD (36 + k) 0 % 3 = 0))) := by
        have : eqD (natD (ds.getD (36 + k) 0 % 3)) (.int 0) = some (.bl (decide (((ds.getD (36 + k) 0 % 3 : Nat) : Int) = 0))) := eqI _ _
        rw [this]
        exact congrArg (fun b => some (D.bl b)) (decide_eq_decide.mpr (by omega))
      have ga : gT (gsCons (gN 3) (gsCons (gN 9) gsNil)) (.tup [natD k, .str (nm k)]) [some DS, some SP, some RL, x3, y4, y5, y6, y7, some (.lst ((l.map (knK ds)).map knD)), x9] = some [some DS, some SP, some RL, some (natD k), y4, y5, y6, y7, some (.lst ((l.map (knK ds)).map knD)), some (.str (nm k))] := rfl
      have step : ∃ l2 : List Nat, l2.Pairwise (· < ·) ∧ (∀ i ∈ l2, i < k + 1) ∧ l2.length ≤ 6 ∧ suD0 F [some DS, some SP, some RL, some (natD k), y4, y5, y6, y7, some (.lst ((l.map (knK ds)).map knD)), some (.str (nm k))] = some (.nx [some DS, some SP, some RL, some (natD k), y4, y5, y6, y7, some (.lst ((l2.map (knK ds)).map knD)), some (.str (nm k))]) := by
        by_cases c : l.length < q ∧ ds.getD (36 + k) 0 % 3 = 0
        · obtain ⟨c2, c3⟩ := c
          rw [decide_eq_true c2] at ltq
          rw [decide_eq_true c3] at a6
          have er : D.tup [.str (nm k), wy (stP ds k)] = knD (knK ds k) := rfl
          have ft : fits (((l.map (knK ds)).map knD).length + 1) = true := fits_of (by rw [List.length_map, List.length_map]; omega)
          have el : D.lst (((l.map (knK ds)).map knD) ++ [knD (knK ds k)]) = .lst (((l ++ [k]).map (knK ds)).map knD) := by rw [List.map_append, List.map_append]; rfl
          refine ⟨l ++ [k], in_k h1 h2, fun i hi => ?_, by rw [List.length_append, List.length_singleton]; omega, ?_⟩
          · rcases List.mem_append.mp hi with hi | hi
            · have := h2 i hi; omega
            · rw [List.mem_singleton.mp hi]; omega
          · unfold suD0
            simp only [s_sSeq, s_sNil, s_sRet, s_sRetT, s_sIf, s_sAsg, s_sPar, s_sSetM, s_cND, s_cC, s_cB, s_cU, s_cTup, s_cLst, s_cNil, s_cCons, s_cCall, s_cFn, s_cIx, s_cAnd, s_cOr, s_cNot, s_cIf, s_cTr, s_cBT, s_cAndT, s_cOrT, s_cNotT, s_cCh, s_cChT, s_cSl, s_sFor, s_cWalk, s_cLc, s_lcOne, s_cTrue, s_sApp, s_gN, s_gT, s_gsNil, s_gsCons, s_cV0, s_cVs, s_finR, s_finN, s_boolD, s_truB, s_setAll0, s_setAll1, s_op1, s_op2, s_abs, s_addI, s_subI, eqI, neI, ltI, gtI, leI, geI, mkTup1, mkTup2, mkTup3, idx_t0, idx_t1, idx_t2, obS, omS, List.set_cons_zero, List.set_cons_succ, s_cNone, s_cPart, s_intD, s_cRng1, s_walkL, s_walkT, s_lenT, s_lenL, s_lenS, s_slT, s_slL, if_true, if_false, decide_true, decide_false, Bool.not_true, Bool.not_false, Bool.and_true, Bool.and_false, Bool.true_and, Bool.false_and, Bool.false_eq_true, decide_eq_true_eq, s_cEnum, s_sPut, s_revL, s_revT, s_listL, s_listT, s_tupleL, s_tupleT, s_isDicLst, s_isDicTup, s_isDicInt, wipeE_nil, wipeE_cons, ll, i35, m35, mk4, l4, ltq, a4, i4, a5, a6, p1, er, ft, el]
        · refine ⟨l, h1, fun i hi => Nat.lt_succ_of_lt (h2 i hi), h3, ?_⟩
          unfold suD0
          generalize hb2 : decide (l.length < q) = b2 at *
          generalize hb3 : decide (ds.getD (36 + k) 0 % 3 = 0) = b3 at *
          have cc : b2 = false ∨ b3 = false := by
            cases b2 with
            | false => exact .inl rfl
            | true =>
              cases b3 with
              | false => exact .inr rfl
              | true => exact absurd ⟨of_decide_eq_true hb2, of_decide_eq_true hb3⟩ c
          generalize D.lst ((l.map (knK ds)).map knD) = LD at *
          cases b2 <;> cases b3 <;> first | (simp only [s_sSeq, s_sNil, s_sRet, s_sRetT, s_sIf, s_sAsg, s_sPar, s_sSetM, s_cND, s_cC, s_cB, s_cU, s_cTup, s_cLst, s_cNil, s_cCons, s_cCall, s_cFn, s_cIx, s_cAnd, s_cOr, s_cNot, s_cIf, s_cTr, s_cBT, s_cAndT, s_cOrT, s_cNotT, s_cCh, s_cChT, s_cSl, s_sFor, s_cWalk, s_cLc, s_lcOne, s_cTrue, s_sApp, s_gN, s_gT, s_gsNil, s_gsCons, s_cV0, s_cVs, s_finR, s_finN, s_boolD, s_truB, s_setAll0, s_setAll1, s_op1, s_op2, s_abs, s_addI, s_subI, eqI, neI, ltI, gtI, leI, geI, mkTup1, mkTup2, mkTup3, idx_t0, idx_t1, idx_t2, obS, omS, List.set_cons_zero, List.set_cons_succ, s_cNone, s_cPart, s_intD, s_cRng1, s_walkL, s_walkT, s_lenT, s_lenL, s_lenS, s_slT, s_slL, if_true, if_false, decide_true, decide_false, Bool.not_true, Bool.not_false, Bool.and_true, Bool.and_false, Bool.true_and, Bool.false_and, Bool.false_eq_true, decide_eq_true_eq, s_cEnum, s_sPut, s_revL, s_revT, s_listL, s_listT, s_tupleL, s_tupleT, s_isDicLst, s_isDicTup, s_isDicInt, wipeE_nil, wipeE_cons, ll, i35, m35, mk4, l4, ltq, a4, i4, a5, a6]; done) | (exfalso; simp at cc)
      obtain ⟨l2, q1, q2, q3, e⟩ := step
      obtain ⟨l', z3, z9, s1, s2, s3, s4⟩ := ih (k + 1) l2 (some (natD k)) (some (.str (nm k))) hks (by omega) q1 q2 q3
      refine ⟨l', z3, z9, s1, s2, s3, ?_⟩
      rw [List.map_cons, forD, ga, obS, e]
      simp only [obS]
      exact s4
  obtain ⟨lk, z3, z9, s1, s2, s3, s4⟩ := loop2 (List.range' 0 (10 - 0)) 0 [] y3 none rfl (by decide) List.Pairwise.nil (fun _ h => (nomatch h)) (by simp)
  have rr2 : (List.range' 0 (10 - 0)) = List.range 10 := by rw [List.range_eq_range']
  rw [rr2] at s4
  -- none known: one is
  have fin : ∃ lk' : List Nat, lk' ≠ [] ∧ lk'.Pairwise (· < ·) ∧ (∀ i ∈ lk', i < 10) ∧ lk'.length ≤ 6 ∧ su5 F [some DS, some SP, some RL, z3, y4, y5, y6, y7, some (.lst ((lk.map (knK ds)).map knD)), z9] = su6 F [some DS, some SP, some RL, z3, y4, y5, y6, y7, some (.lst ((lk'.map (knK ds)).map knD)), z9] := by
    have mk0 : mkLst [] = some (.lst []) := rfl
    have pk : pd 64 (.lst ((lk.map (knK ds)).map knD)) = true := by
      show ((lk.map (knK ds)).map knD).all (pd 63) = true
      rw [List.all_eq_true]
      intro x hx
      obtain ⟨p, _, rfl⟩ := List.mem_map.mp hx
      rfl
    cases hlk : lk with
    | nil =>
      refine ⟨[0], by simp, by simp, by simp, by simp, ?_⟩
      have ne : neD (.lst ((([] : List Nat).map (knK ds)).map knD)) (.lst []) = some (.bl false) := rfl
      have p0 : idxD SP (.str "ann") = some (wy (stP ds 0)) := sp 0 (by decide)
      have er : D.tup [.str "ann", wy (stP ds 0)] = knD (knK ds 0) := rfl
      have mk1 : mkLst [knD (knK ds 0)] = some (.lst [knD (knK ds 0)]) := rfl
      have dn : isDic (.lst [knD (knK ds 0)]) = false := rfl
      have el : D.lst ((([0] : List Nat).map (knK ds)).map knD) = .lst [knD (knK ds 0)] := rfl
      rw [el]
      unfold su5
      rw [s_sSeq, s_sSetIf]
      generalize D.lst ((([] : List Nat).map (knK ds)).map knD) = LD at *
      simp only [s_sSeq, s_sNil, s_sRet, s_sRetT, s_sIf, s_sAsg, s_sPar, s_sSetM, s_cND, s_cC, s_cB, s_cU, s_cTup, s_cLst, s_cNil, s_cCons, s_cCall, s_cFn, s_cIx, s_cAnd, s_cOr, s_cNot, s_cIf, s_cTr, s_cBT, s_cAndT, s_cOrT, s_cNotT, s_cCh, s_cChT, s_cSl, s_sFor, s_cWalk, s_cLc, s_lcOne, s_cTrue, s_sApp, s_gN, s_gT, s_gsNil, s_gsCons, s_cV0, s_cVs, s_finR, s_finN, s_boolD, s_truB, s_setAll0, s_setAll1, s_op1, s_op2, s_abs, s_addI, s_subI, eqI, neI, ltI, gtI, leI, geI, mkTup1, mkTup2, mkTup3, idx_t0, idx_t1, idx_t2, obS, omS, List.set_cons_zero, List.set_cons_succ, s_cNone, s_cPart, s_intD, s_cRng1, s_walkL, s_walkT, s_lenT, s_lenL, s_lenS, s_slT, s_slL, if_true, if_false, decide_true, decide_false, Bool.not_true, Bool.not_false, Bool.and_true, Bool.and_false, Bool.true_and, Bool.false_and, Bool.false_eq_true, decide_eq_true_eq, s_cEnum, s_sPut, s_revL, s_revT, s_listL, s_listT, s_tupleL, s_tupleT, s_isDicLst, s_isDicTup, s_isDicInt, wipeE_nil, wipeE_cons, mk0, ne, p0, er, mk1, dn]
    | cons k0 lk0 =>
      refine ⟨k0 :: lk0, by simp, hlk ▸ s1, hlk ▸ s2, hlk ▸ s3, ?_⟩
      have ne : neD (.lst (((k0 :: lk0).map (knK ds)).map knD)) (.lst []) = some (.bl true) := by
        rw [hlk] at pk
        unfold neD pd2
        rw [pk, show pd 64 (.lst []) = true from rfl]
        have : eqv (.lst (((k0 :: lk0).map (knK ds)).map knD)) (.lst []) = false := by simp [eqv, toP, toPs, PyData.eqv, PyData.eqvAll]
        rw [this]; rfl
      unfold su5
      rw [s_sSeq, s_sSetIf]
      generalize D.lst (((k0 :: lk0).map (knK ds)).map knD) = LD at *
      simp only [s_sSeq, s_sNil, s_sRet, s_sRetT, s_sIf, s_sAsg, s_sPar, s_sSetM, s_cND, s_cC, s_cB, s_cU, s_cTup, s_cLst, s_cNil, s_cCons, s_cCall, s_cFn, s_cIx, s_cAnd, s_cOr, s_cNot, s_cIf, s_cTr, s_cBT, s_cAndT, s_cOrT, s_cNotT, s_cCh, s_cChT, s_cSl, s_sFor, s_cWalk, s_cLc, s_lcOne, s_cTrue, s_sApp, s_gN, s_gT, s_gsNil, s_gsCons, s_cV0, s_cVs, s_finR, s_finN, s_boolD, s_truB, s_setAll0, s_setAll1, s_op1, s_op2, s_abs, s_addI, s_subI, eqI, neI, ltI, gtI, leI, geI, mkTup1, mkTup2, mkTup3, idx_t0, idx_t1, idx_t2, obS, omS, List.set_cons_zero, List.set_cons_succ, s_cNone, s_cPart, s_intD, s_cRng1, s_walkL, s_walkT, s_lenT, s_lenL, s_lenS, s_slT, s_slL, if_true, if_false, decide_true, decide_false, Bool.not_true, Bool.not_false, Bool.and_true, Bool.and_false, Bool.true_and, Bool.false_and, Bool.false_eq_true, decide_eq_true_eq, s_cEnum, s_sPut, s_revL, s_revT, s_listL, s_listT, s_tupleL, s_tupleT, s_isDicLst, s_isDicTup, s_isDicInt, wipeE_nil, wipeE_cons, mk0, ne]
  obtain ⟨lk', t1, t2, t3, t4, e5⟩ := fin
  obtain ⟨K, k1, k2⟩ := kn_sort (l := lk'.map (knK ds)) (by rw [List.length_map]; omega)
  obtain ⟨S, g1, g2⟩ := sg_sort (l := ls.map (rowK ds)) (by rw [List.length_map]; omega)
  refine ⟨K, S, ⟨⟨lk', t1, t2, t3, t4, k2⟩, ls, r1, r2, r3, r4, g2⟩, ?_⟩
  have r25 : rng1D (.int 25) = some ((List.range 25).map natD) := rng1_ev (j := 25) (by decide)
  have ne := nm_enum
  have mk0 : mkLst [] = some (.lst []) := rfl
  have eK : tupleD (.lst (K.map knD)) = some (.tup (K.map knD)) := rfl
  have eS : tupleD (.lst (S.map sgD)) = some (.tup (S.map sgD)) := rfl
  unfold su0
  simp only [s_sSeq, s_sNil, s_sRet, s_sRetT, s_sIf, s_sAsg, s_sPar, s_sSetM, s_cND, s_cC, s_cB, s_cU, s_cTup, s_cLst, s_cNil, s_cCons, s_cCall, s_cFn, s_cIx, s_cAnd, s_cOr, s_cNot, s_cIf, s_cTr, s_cBT, s_cAndT, s_cOrT, s_cNotT, s_cCh, s_cChT, s_cSl, s_sFor, s_cWalk, s_cLc, s_lcOne, s_cTrue, s_sApp, s_gN, s_gT, s_gsNil, s_gsCons, s_cV0, s_cVs, s_finR, s_finN, s_boolD, s_truB, s_setAll0, s_setAll1, s_op1, s_op2, s_abs, s_addI, s_subI, eqI, neI, ltI, gtI, leI, geI, mkTup1, mkTup2, mkTup3, idx_t0, idx_t1, idx_t2, obS, omS, List.set_cons_zero, List.set_cons_succ, s_cNone, s_cPart, s_intD, s_cRng1, s_walkL, s_walkT, s_lenT, s_lenL, s_lenS, s_slT, s_slL, if_true, if_false, decide_true, decide_false, Bool.not_true, Bool.not_false, Bool.and_true, Bool.and_false, Bool.true_and, Bool.false_and, Bool.false_eq_true, decide_eq_true_eq, s_cEnum, s_sPut, s_revL, s_revT, s_listL, s_listT, s_tupleL, s_tupleT, s_isDicLst, s_isDicTup, s_isDicInt, wipeE_nil, wipeE_cons, fs]
  unfold su1
  simp only [s_sSeq, s_sNil, s_sRet, s_sRetT, s_sIf, s_sAsg, s_sPar, s_sSetM, s_cND, s_cC, s_cB, s_cU, s_cTup, s_cLst, s_cNil, s_cCons, s_cCall, s_cFn, s_cIx, s_cAnd, s_cOr, s_cNot, s_cIf, s_cTr, s_cBT, s_cAndT, s_cOrT, s_cNotT, s_cCh, s_cChT, s_cSl, s_sFor, s_cWalk, s_cLc, s_lcOne, s_cTrue, s_sApp, s_gN, s_gT, s_gsNil, s_gsCons, s_cV0, s_cVs, s_finR, s_finN, s_boolD, s_truB, s_setAll0, s_setAll1, s_op1, s_op2, s_abs, s_addI, s_subI, eqI, neI, ltI, gtI, leI, geI, mkTup1, mkTup2, mkTup3, idx_t0, idx_t1, idx_t2, obS, omS, List.set_cons_zero, List.set_cons_succ, s_cNone, s_cPart, s_intD, s_cRng1, s_walkL, s_walkT, s_lenT, s_lenL, s_lenS, s_slT, s_slL, if_true, if_false, decide_true, decide_false, Bool.not_true, Bool.not_false, Bool.and_true, Bool.and_false, Bool.true_and, Bool.false_and, Bool.false_eq_true, decide_eq_true_eq, s_cEnum, s_sPut, s_revL, s_revT, s_listL, s_listT, s_tupleL, s_tupleT, s_isDicLst, s_isDicTup, s_isDicInt, wipeE_nil, wipeE_cons, mk0]
  unfold su2
  rw [s_sSeq, s_sFor]
  simp only [s_cRng1, s_cC, obS, r25]
  have r5 : forD (gN 3) (suC0 F) ((List.range 25).map natD) [some DS, some SP, some (.lst []), none, none, none, none, none, none, none] = _ := r5
  rw [r5]
  simp only [obS]
  unfold su3
  simp only [s_sSeq, s_sNil, s_sRet, s_sRetT, s_sIf, s_sAsg, s_sPar, s_sSetM, s_cND, s_cC, s_cB, s_cU, s_cTup, s_cLst, s_cNil, s_cCons, s_cCall, s_cFn, s_cIx, s_cAnd, s_cOr, s_cNot, s_cIf, s_cTr, s_cBT, s_cAndT, s_cOrT, s_cNotT, s_cCh, s_cChT, s_cSl, s_sFor, s_cWalk, s_cLc, s_lcOne, s_cTrue, s_sApp, s_gN, s_gT, s_gsNil, s_gsCons, s_cV0, s_cVs, s_finR, s_finN, s_boolD, s_truB, s_setAll0, s_setAll1, s_op1, s_op2, s_abs, s_addI, s_subI, eqI, neI, ltI, gtI, leI, geI, mkTup1, mkTup2, mkTup3, idx_t0, idx_t1, idx_t2, obS, omS, List.set_cons_zero, List.set_cons_succ, s_cNone, s_cPart, s_intD, s_cRng1, s_walkL, s_walkT, s_lenT, s_lenL, s_lenS, s_slT, s_slL, if_true, if_false, decide_true, decide_false, Bool.not_true, Bool.not_false, Bool.and_true, Bool.and_false, Bool.true_and, Bool.false_and, Bool.false_eq_true, decide_eq_true_eq, s_cEnum, s_sPut, s_revL, s_revT, s_listL, s_listT, s_tupleL, s_tupleT, s_isDicLst, s_isDicTup, s_isDicInt, wipeE_nil, wipeE_cons, mk0]
  unfold su4
  rw [s_sSeq, s_sFor, s_cEnum, s_cFn]
  simp only [s_cNil, obS, fn, wNM, omS, ne]
  have s4 : forD (gT (gsCons (gN 3) (gsCons (gN 9) gsNil))) (suD0 F) ((List.range 10).map fun i => .tup [natD i, .str (nm i)]) [some DS, some SP, some RL, y3, y4, y5, y6, y7, some (.lst []), none] = _ := s4
  rw [s4]
  simp only [obS]
  rw [e5]
  rw [hRL] at g1
  unfold su6
  simp only [s_sSeq, s_sRet, s_cTup, s_cCons, s_cCall, s_cVs, s_cV0, s_cNil, obS, s_op1, k1, g1, s_tupleL, mkTup2, omS]
  rfl
end L
end
section
open PySem PySem.Spec PyProof.Rows L2 RE
namespace RE
theorem pd_lst (n : Nat) (l : List D) : pd (n + 1) (.lst l) = l.all (pd n) := by simp [pd]
mutual
theorem eqv_self : ∀ (n : Nat) (d : D), pd n d = true → eqv d d = true
  | n, .non, _ => by simp [eqv, toP, PyData.eqv]
  | n, .bl _, _ => by simp [eqv, toP, PyData.eqv]
  | n, .int _, _ => by simp [eqv, toP, PyData.eqv]
  | n, .str _, _ => by simp [eqv, toP, PyData.eqv]
  | 0, .tup _, h => by simp [pd] at h
  | 0, .lst _, h => by simp [pd] at h
  | n + 1, .tup l, h => by
    rw [pd_tup] at h
    have := eqvL_self n l h
    simpa [eqv, eqvL, toP, PyData.eqv] using this
  | n + 1, .lst l, h => by
    rw [pd_lst] at h
    have := eqvL_self n l h
    simpa [eqv, eqvL, toP, PyData.eqv] using this
  | n, .dic _ _, h => by cases n <;> simp [pd] at h
  | n, .scr _, h => by cases n <;> simp [pd] at h
  | n, .fn _, h => by cases n <;> simp [pd] at h
theorem eqvL_self : ∀ (n : Nat) (l : List D), l.all (pd n) = true → eqvL l l = true
  | _, [], _ => eqvL_nil
  | n, d :: l, h => by
    rw [List.all_cons, Bool.and_eq_true] at h
    rw [eqvL_cons, eqv_self n d h.1, eqvL_self n l h.2]; rfl
end
theorem eq_self {d : D} (h : pd 64 d = true) : eqD d d = some (.bl true) := by
  unfold eqD pd2; rw [h, eqv_self 64 d h]; rfl
theorem ne_self {d : D} (h : pd 64 d = true) : neD d d = some (.bl false) := by
  unfold neD pd2; rw [h, eqv_self 64 d h]; rfl
end RE
namespace RE
theorem SgOk.alike {S S' : List Sg} (h : SgOk S) (e : S'.map (fun s => (s.1, s.2.1)) = S.map fun s => (s.1, s.2.1)) (hp : ∀ s ∈ S', Prim s.2.2 ∧ s.2.2.1.natAbs < 2 ^ 7 ∧ s.2.2.2.natAbs < 2 ^ 7) : SgOk S' := by
  have back : ∀ s ∈ S', ∃ s0 ∈ S, s0.1 = s.1 ∧ s0.2.1 = s.2.1 := fun s hs => by
    have : (s.1, s.2.1) ∈ S.map fun s => (s.1, s.2.1) := by rw [← e]; exact List.mem_map.mpr ⟨s, hs, rfl⟩
    obtain ⟨s0, h0, e0⟩ := List.mem_map.mp this
    have e0 : (s0.1, s0.2.1) = (s.1, s.2.1) := e0
    exact ⟨s0, h0, (Prod.mk.inj e0).1, (Prod.mk.inj e0).2⟩
  refine ⟨?_, by rw [e]; exact h.nd, fun s hs => (hp s hs).1, fun s hs => (hp s hs).2.1, fun s hs => (hp s hs).2.2, fun s hs s' hs' q => ?_⟩
  · have := congrArg List.length e
    rw [List.length_map, List.length_map] at this
    rw [this]; exact h.len
  · obtain ⟨a, ha, a1, _⟩ := back s hs
    obtain ⟨b, hb, _, b2⟩ := back s' hs'
    exact h.dis a ha b hb (by rw [a1, b2]; exact q)
theorem SvOk.alike {K : List Rwy} {S S' : List Sg} {N : List Str} (h : SvOk K S N) (e : S'.map (fun s => (s.1, s.2.1)) = S.map fun s => (s.1, s.2.1)) (hp : ∀ s ∈ S', Prim s.2.2 ∧ s.2.2.1.natAbs < 2 ^ 7 ∧ s.2.2.2.natAbs < 2 ^ 7) : SvOk K S' N := by
  have back : ∀ s ∈ S', ∃ s0 ∈ S, s0.1 = s.1 ∧ s0.2.1 = s.2.1 := fun s hs => by
    have : (s.1, s.2.1) ∈ S.map fun s => (s.1, s.2.1) := by rw [← e]; exact List.mem_map.mpr ⟨s, hs, rfl⟩
    obtain ⟨s0, h0, e0⟩ := List.mem_map.mp this
    have e0 : (s0.1, s0.2.1) = (s.1, s.2.1) := e0
    exact ⟨s0, h0, (Prod.mk.inj e0).1, (Prod.mk.inj e0).2⟩
  refine ⟨h.sg.alike e hp, h.nd, h.k1, h.k2, h.n1, fun s hs => ?_, fun s hs => ?_, h.n10⟩
  · obtain ⟨a, ha, a1, _⟩ := back s hs
    rw [← a1]; exact h.n2 a ha
  · obtain ⟨a, ha, _, a2⟩ := back s hs
    rw [← a2]; exact h.n3 a ha
theorem Prim.ne {w : Int × Int} (h : Prim w) : w ≠ (0, 0) := fun e => by
  rw [e] at h
  unfold Prim at h
  simp at h
/-- the seven ways that may be told -/
def sevenW (w : Int × Int) (d : Nat) : List (Int × Int) := [w, w, w, (0 - w.1, 0 - w.2), (0 - w.2, w.1), (((1 + d / 7 % 5 : Nat) : Int), 1), (0, 1)]
theorem seven_ok {w : Int × Int} (h : Prim w) (h1 : w.1.natAbs < 2 ^ 7) (h2 : w.2.natAbs < 2 ^ 7) (d j : Nat) (hj : j < 7) : ∃ p, idxD (.lst ((sevenW w d).map wy)) (natD j) = some (wy p) ∧ p ≠ (0, 0) ∧ p.1.natAbs < 2 ^ 7 ∧ p.2.natAbs < 2 ^ 7 := by
  have ne := h.ne
  have c5 : d / 7 % 5 < 5 := Nat.mod_lt _ (by decide)
  match j, hj with
  | 0, _ => exact ⟨w, rfl, ne, h1, h2⟩
  | 1, _ => exact ⟨w, rfl, ne, h1, h2⟩
  | 2, _ => exact ⟨w, rfl, ne, h1, h2⟩
  | 3, _ =>
    refine ⟨(0 - w.1, 0 - w.2), rfl, fun e => ne ?_, by simpa using h1, by simpa using h2⟩
    have e1 := congrArg Prod.fst e
    have e2 := congrArg Prod.snd e
    simp only at e1 e2
    exact Prod.ext (by omega) (by omega)
  | 4, _ =>
    refine ⟨(0 - w.2, w.1), rfl, fun e => ne ?_, by simpa using h2, h1⟩
    have e1 := congrArg Prod.fst e
    have e2 := congrArg Prod.snd e
    simp only at e1 e2
    exact Prod.ext (by omega) (by omega)
  | 5, _ =>
    have c : 5 < 2 ^ 7 := by decide
    exact ⟨(((1 + d / 7 % 5 : Nat) : Int), 1), rfl, fun e => absurd (congrArg Prod.snd e) (show ¬ ((1 : Int) = 0) by decide), by show (((1 + d / 7 % 5 : Nat) : Int)).natAbs < _; omega, (show (1 : Int).natAbs < 2 ^ 7 by decide)⟩
  | 6, _ => exact ⟨(0, 1), rfl, fun e => absurd (congrArg Prod.snd e) (by decide), by decide, by decide⟩
end RE
namespace L
theorem false_ev (n : Nat) {K : List Rwy} {S : List Sg} (h : SgOk S) {ms : List Nat} (hm : S.length ≤ ms.length) : ∃ S' : List Sg, S'.map (fun s => (s.1, s.2.1)) = S.map (fun s => (s.1, s.2.1)) ∧ (∀ s ∈ S', Prim s.2.2 ∧ s.2.2.1.natAbs < 2 ^ 7 ∧ s.2.2.2.natAbs < 2 ^ 7) ∧ lvl (DT rows) (n + 3) "_law_false" [svD K S, .lst (ms.map natD)] = some (svD K S') := by
  have c27 : 2 ^ 7 ≤ 2 ^ 20 := by decide
  have fl : ∀ p : Int × Int, p ≠ (0, 0) → p.1.natAbs < 2 ^ 7 → p.2.natAbs < 2 ^ 7 → lvl (DT rows) (n + 2) "_law_lowest" [wy p] = some (wy (lowI p)) := fun p h h1 h2 => lowest_ev n h (Nat.lt_of_lt_of_le h1 c27) (Nat.lt_of_lt_of_le h2 c27)
  have id : ∀ i, i < ms.length → idxD (.lst (ms.map natD)) (natD i) = some (natD (ms.getD i 0)) := fun i hi => ds_idx hi
  rw [v__law_false, fa_eq]
  generalize lvl (DT rows) (n + 2) = F at *
  have j0 := sv_idx0 K S
  have j1 := sv_idx1 K S
  generalize hSV : svD K S = SV at *
  generalize D.lst (ms.map natD) = MS at *
  have loop : ∀ (l : List Sg) (k : Nat) (A : List Sg) (x3 x4 x5 x6 x7 x8 x9 : Option D), (∀ s ∈ l, Prim s.2.2 ∧ s.2.2.1.natAbs < 2 ^ 7 ∧ s.2.2.2.natAbs < 2 ^ 7) → k + l.length ≤ ms.length → A.length + l.length ≤ 1000 → (∀ s ∈ A, Prim s.2.2 ∧ s.2.2.1.natAbs < 2 ^ 7 ∧ s.2.2.2.natAbs < 2 ^ 7) →
      ∃ (B : List Sg) (y3 y4 y5 y6 y7 y8 y9 : Option D), B.map (fun s => (s.1, s.2.1)) = A.map (fun s => (s.1, s.2.1)) ++ l.map (fun s => (s.1, s.2.1)) ∧ (∀ s ∈ B, Prim s.2.2 ∧ s.2.2.1.natAbs < 2 ^ 7 ∧ s.2.2.2.natAbs < 2 ^ 7) ∧ forD (gT (gsCons (gN 3) (gsCons (gT (gsCons (gN 4) (gsCons (gN 5) (gsCons (gT (gsCons (gN 6) (gsCons (gN 7) gsNil))) gsNil)))) gsNil))) (faC0 F) (enumL k (l.map sgD)) [some SV, some MS, some (.lst (A.map sgD)), x3, x4, x5, x6, x7, x8, x9] = some (.nx [some SV, some MS, some (.lst (B.map sgD)), y3, y4, y5, y6, y7, y8, y9]) := by
    intro l
    induction l with
    | nil => intro k A x3 x4 x5 x6 x7 x8 x9 _ _ _ hA; exact ⟨A, x3, x4, x5, x6, x7, x8, x9, by simp, hA, by simp [enumL, forD]⟩
    | cons s l ih =>
      intro k A x3 x4 x5 x6 x7 x8 x9 hs hk hl hA
      rw [List.length_cons] at hk hl
      obtain ⟨p1, b1, b2⟩ := hs s List.mem_cons_self
      have i1 := id k (by omega)
      generalize ms.getD k 0 = d at *
      have d1 : fdivD (natD d) (.int 7) = some (natD (d / 7)) := fdN d 7 (by decide) (by decide)
      have m1 : modD (natD (d / 7)) (.int 5) = some (natD (d / 7 % 5)) := modN _ 5 (by decide)
      have a1 : addD (.int 1) (natD (d / 7 % 5)) = some (natD (1 + d / 7 % 5)) := rfl
      have m2 : modD (natD d) (.int 7) = some (natD (d % 7)) := modN _ 7 (by decide)
      obtain ⟨p, g1, g2, g3, g4⟩ := seven_ok p1 b1 b2 d (d % 7) (Nat.mod_lt _ (by decide))
      have f := fl p g2 g3 g4
      obtain ⟨q1, q2, q3⟩ := low_prim g2
      have ga : gT (gsCons (gN 3) (gsCons (gT (gsCons (gN 4) (gsCons (gN 5) (gsCons (gT (gsCons (gN 6) (gsCons (gN 7) gsNil))) gsNil)))) gsNil)) (.tup [natD k, sgD s]) [some SV, some MS, some (.lst (A.map sgD)), x3, x4, x5, x6, x7, x8, x9] = some [some SV, some MS, some (.lst (A.map sgD)), some (natD k), some (.str s.1), some (.str s.2.1), some (.int s.2.2.1), some (.int s.2.2.2), x8, x9] := rfl
      have mk : mkLst [.tup [.int s.2.2.1, .int s.2.2.2], .tup [.int s.2.2.1, .int s.2.2.2], .tup [.int s.2.2.1, .int s.2.2.2], .tup [.int (0 - s.2.2.1), .int (0 - s.2.2.2)], .tup [.int (0 - s.2.2.2), .int s.2.2.1], .tup [natD (1 + d / 7 % 5), .int 1], .tup [.int 0, .int 1]] = some (.lst ((sevenW s.2.2 d).map wy)) := rfl
      have er : D.tup [.str s.1, .str s.2.1, wy (lowI p)] = sgD (s.1, s.2.1, lowI p) := rfl
      have ft : fits ((A.map sgD).length + 1) = true := fits_of (by rw [List.length_map]; omega)
      have el : D.lst (A.map sgD ++ [sgD (s.1, s.2.1, lowI p)]) = .lst ((A ++ [(s.1, s.2.1, lowI p)]).map sgD) := by rw [List.map_append]; rfl
      have st : faC0 F [some SV, some MS, some (.lst (A.map sgD)), some (natD k), some (.str s.1), some (.str s.2.1), some (.int s.2.2.1), some (.int s.2.2.2), x8, x9] = some (.nx [some SV, some MS, some (.lst ((A ++ [(s.1, s.2.1, lowI p)]).map sgD)), some (natD k), some (.str s.1), some (.str s.2.1), some (.int s.2.2.1), some (.int s.2.2.2), some (natD d), some (.lst ((sevenW s.2.2 d).map wy))]) := by
        unfold faC0
        simp only [s_sSeq, s_sNil, s_sRet, s_sRetT, s_sIf, s_sAsg, s_sPar, s_sSetM, s_cND, s_cC, s_cB, s_cU, s_cTup, s_cLst, s_cNil, s_cCons, s_cCall, s_cFn, s_cIx, s_cAnd, s_cOr, s_cNot, s_cIf, s_cTr, s_cBT, s_cAndT, s_cOrT, s_cNotT, s_cCh, s_cChT, s_cSl, s_sFor, s_cWalk, s_cLc, s_lcOne, s_cTrue, s_sApp, s_gN, s_gT, s_gsNil, s_gsCons, s_cV0, s_cVs, s_finR, s_finN, s_boolD, s_truB, s_setAll0, s_setAll1, s_op1, s_op2, s_abs, s_addI, s_subI, eqI, neI, ltI, gtI, leI, geI, mkTup1, mkTup2, mkTup3, idx_t0, idx_t1, idx_t2, obS, omS, List.set_cons_zero, List.set_cons_succ, s_cNone, s_cPart, s_intD, s_cRng1, s_walkL, s_walkT, s_lenT, s_lenL, s_lenS, s_slT, s_slL, if_true, if_false, decide_true, decide_false, Bool.not_true, Bool.not_false, Bool.and_true, Bool.and_false, Bool.true_and, Bool.false_and, Bool.false_eq_true, decide_eq_true_eq, s_cEnum, s_sPut, s_revL, s_revT, s_listL, s_listT, s_tupleL, s_tupleT, s_isDicLst, s_isDicTup, s_isDicInt, wipeE_nil, wipeE_cons, i1]
        unfold faC1
        simp only [s_sSeq, s_sNil, s_sRet, s_sRetT, s_sIf, s_sAsg, s_sPar, s_sSetM, s_cND, s_cC, s_cB, s_cU, s_cTup, s_cLst, s_cNil, s_cCons, s_cCall, s_cFn, s_cIx, s_cAnd, s_cOr, s_cNot, s_cIf, s_cTr, s_cBT, s_cAndT, s_cOrT, s_cNotT, s_cCh, s_cChT, s_cSl, s_sFor, s_cWalk, s_cLc, s_lcOne, s_cTrue, s_sApp, s_gN, s_gT, s_gsNil, s_gsCons, s_cV0, s_cVs, s_finR, s_finN, s_boolD, s_truB, s_setAll0, s_setAll1, s_op1, s_op2, s_abs, s_addI, s_subI, eqI, neI, ltI, gtI, leI, geI, mkTup1, mkTup2, mkTup3, idx_t0, idx_t1, idx_t2, obS, omS, List.set_cons_zero, List.set_cons_succ, s_cNone, s_cPart, s_intD, s_cRng1, s_walkL, s_walkT, s_lenT, s_lenL, s_lenS, s_slT, s_slL, if_true, if_false, decide_true, decide_false, Bool.not_true, Bool.not_false, Bool.and_true, Bool.and_false, Bool.true_and, Bool.false_and, Bool.false_eq_true, decide_eq_true_eq, s_cEnum, s_sPut, s_revL, s_revT, s_listL, s_listT, s_tupleL, s_tupleT, s_isDicLst, s_isDicTup, s_isDicInt, wipeE_nil, wipeE_cons, d1, m1, a1, mk]
        unfold faC2
        generalize D.lst ((sevenW s.2.2 d).map wy) = SW at *
        simp only [s_sSeq, s_sNil, s_sRet, s_sRetT, s_sIf, s_sAsg, s_sPar, s_sSetM, s_cND, s_cC, s_cB, s_cU, s_cTup, s_cLst, s_cNil, s_cCons, s_cCall, s_cFn, s_cIx, s_cAnd, s_cOr, s_cNot, s_cIf, s_cTr, s_cBT, s_cAndT, s_cOrT, s_cNotT, s_cCh, s_cChT, s_cSl, s_sFor, s_cWalk, s_cLc, s_lcOne, s_cTrue, s_sApp, s_gN, s_gT, s_gsNil, s_gsCons, s_cV0, s_cVs, s_finR, s_finN, s_boolD, s_truB, s_setAll0, s_setAll1, s_op1, s_op2, s_abs, s_addI, s_subI, eqI, neI, ltI, gtI, leI, geI, mkTup1, mkTup2, mkTup3, idx_t0, idx_t1, idx_t2, obS, omS, List.set_cons_zero, List.set_cons_succ, s_cNone, s_cPart, s_intD, s_cRng1, s_walkL, s_walkT, s_lenT, s_lenL, s_lenS, s_slT, s_slL, if_true, if_false, decide_true, decide_false, Bool.not_true, Bool.not_false, Bool.and_true, Bool.and_false, Bool.true_and, Bool.false_and, Bool.false_eq_true, decide_eq_true_eq, s_cEnum, s_sPut, s_revL, s_revT, s_listL, s_listT, s_tupleL, s_tupleT, s_isDicLst, s_isDicTup, s_isDicInt, wipeE_nil, wipeE_cons, m2, g1, f, er, ft, el]
      obtain ⟨B, y3, y4, y5, y6, y7, y8, y9, e1, e2, e3⟩ := ih (k + 1) (A ++ [(s.1, s.2.1, lowI p)]) (some (natD k)) (some (.str s.1)) (some (.str s.2.1)) (some (.int s.2.2.1)) (some (.int s.2.2.2)) (some (natD d)) (some (.lst ((sevenW s.2.2 d).map wy))) (fun q hq => hs q (List.mem_cons_of_mem _ hq)) (by omega) (by rw [List.length_append, List.length_singleton]; omega) (fun q hq => by
        rcases List.mem_append.mp hq with hq | hq
        · exact hA q hq
        · rw [List.mem_singleton.mp hq]
          exact ⟨q1, Nat.lt_of_le_of_lt q2 g3, Nat.lt_of_le_of_lt q3 g4⟩)
      refine ⟨B, y3, y4, y5, y6, y7, y8, y9, ?_, e2, ?_⟩
      · rw [e1, List.map_append, List.map_cons, List.append_assoc]
        rfl
      · rw [List.map_cons, enumL, forD]
        have ga : gT (gsCons (gN 3) (gsCons (gT (gsCons (gN 4) (gsCons (gN 5) (gsCons (gT (gsCons (gN 6) (gsCons (gN 7) gsNil))) gsNil)))) gsNil)) (.tup [.int (k : Nat), sgD s]) [some SV, some MS, some (.lst (A.map sgD)), x3, x4, x5, x6, x7, x8, x9] = _ := ga
        rw [ga, obS, st]
        simp only [obS]
        exact e3
  obtain ⟨B, y3, y4, y5, y6, y7, y8, y9, e1, e2, e3⟩ := loop S 0 [] none none none none none none none (fun s hs => ⟨h.prim s hs, h.b1 s hs, h.b2 s hs⟩) (by omega) (by have := h.len; simp; omega) (fun _ q => (nomatch q))
  refine ⟨B, by rw [e1]; rfl, e2, ?_⟩
  have wS : walkL (.tup (S.map sgD)) = some (S.map sgD) := rfl
  have mk0 : mkLst [] = some (.lst []) := rfl
  have em : D.tup [.tup (K.map knD), .tup (B.map sgD)] = svD K B := rfl
  unfold fa0
  simp only [s_sSeq, s_sNil, s_sRet, s_sRetT, s_sIf, s_sAsg, s_sPar, s_sSetM, s_cND, s_cC, s_cB, s_cU, s_cTup, s_cLst, s_cNil, s_cCons, s_cCall, s_cFn, s_cIx, s_cAnd, s_cOr, s_cNot, s_cIf, s_cTr, s_cBT, s_cAndT, s_cOrT, s_cNotT, s_cCh, s_cChT, s_cSl, s_sFor, s_cWalk, s_cLc, s_lcOne, s_cTrue, s_sApp, s_gN, s_gT, s_gsNil, s_gsCons, s_cV0, s_cVs, s_finR, s_finN, s_boolD, s_truB, s_setAll0, s_setAll1, s_op1, s_op2, s_abs, s_addI, s_subI, eqI, neI, ltI, gtI, leI, geI, mkTup1, mkTup2, mkTup3, idx_t0, idx_t1, idx_t2, obS, omS, List.set_cons_zero, List.set_cons_succ, s_cNone, s_cPart, s_intD, s_cRng1, s_walkL, s_walkT, s_lenT, s_lenL, s_lenS, s_slT, s_slL, if_true, if_false, decide_true, decide_false, Bool.not_true, Bool.not_false, Bool.and_true, Bool.and_false, Bool.true_and, Bool.false_and, Bool.false_eq_true, decide_eq_true_eq, s_cEnum, s_sPut, s_revL, s_revT, s_listL, s_listT, s_tupleL, s_tupleT, s_isDicLst, s_isDicTup, s_isDicInt, wipeE_nil, wipeE_cons, mk0]
  unfold fa1
  rw [s_sSeq, s_sFor, s_cEnum, s_cIx]
  simp only [s_cV0, s_cC, obS, j1, wS, omS]
  have e3 : forD _ (faC0 F) (enumL 0 (S.map sgD)) [some SV, some MS, some (.lst []), none, none, none, none, none, none, none] = _ := e3
  rw [e3]
  simp only [obS]
  unfold fa2
  simp only [s_sSeq, s_sNil, s_sRet, s_sRetT, s_sIf, s_sAsg, s_sPar, s_sSetM, s_cND, s_cC, s_cB, s_cU, s_cTup, s_cLst, s_cNil, s_cCons, s_cCall, s_cFn, s_cIx, s_cAnd, s_cOr, s_cNot, s_cIf, s_cTr, s_cBT, s_cAndT, s_cOrT, s_cNotT, s_cCh, s_cChT, s_cSl, s_sFor, s_cWalk, s_cLc, s_lcOne, s_cTrue, s_sApp, s_gN, s_gT, s_gsNil, s_gsCons, s_cV0, s_cVs, s_finR, s_finN, s_boolD, s_truB, s_setAll0, s_setAll1, s_op1, s_op2, s_abs, s_addI, s_subI, eqI, neI, ltI, gtI, leI, geI, mkTup1, mkTup2, mkTup3, idx_t0, idx_t1, idx_t2, obS, omS, List.set_cons_zero, List.set_cons_succ, s_cNone, s_cPart, s_intD, s_cRng1, s_walkL, s_walkT, s_lenT, s_lenL, s_lenS, s_slT, s_slL, if_true, if_false, decide_true, decide_false, Bool.not_true, Bool.not_false, Bool.and_true, Bool.and_false, Bool.true_and, Bool.false_and, Bool.false_eq_true, decide_eq_true_eq, s_cEnum, s_sPut, s_revL, s_revT, s_listL, s_listT, s_tupleL, s_tupleT, s_isDicLst, s_isDicTup, s_isDicInt, wipeE_nil, wipeE_cons, j0, em]
end L
end
section
open PySem PySem.Spec PyProof.Rows L2 RE
namespace RE
theorem pd_rowD (W : Wh) (n : Str) : pd 60 (rowD W n) = true := by
  unfold rowD
  cases getA W n <;> rfl
theorem pd_loc (W : Wh) : pd 64 (.lst (locL W)) = true := by
  show (locL W).all (pd 63) = true
  rw [List.all_eq_true]
  intro x hx
  obtain ⟨n, _, rfl⟩ := List.mem_map.mp hx
  unfold rowD
  cases getA W n <;> rfl
theorem loc_len {N : List Str} {W : Wh} (I : Inv N W) : (locL W).length ≤ 10 := by
  unfold locL
  rw [List.length_map]
  have := (srt_spec (W.map (·.1))).2.2.1
  rw [List.length_map] at this
  exact Nat.le_trans this I.len
/-- the written one -/
def K0 : List Rwy := [("ann", (0, 0)), ("bo", (2, 0))]
def S0 : List Sg := [("ann", "box", (1, 1)), ("bo", "box", (-1, 1))]
theorem ok0 : SvOk K0 S0 nmL := by
  refine ⟨⟨by decide, by decide +kernel, ?_, ?_, ?_, ?_⟩, by decide +kernel, by decide, by decide, by decide +kernel, by decide +kernel, by decide +kernel, by decide⟩
  · intro s hs
    simp only [S0, List.mem_cons, List.not_mem_nil, or_false] at hs
    rcases hs with rfl | rfl <;> (unfold Prim; decide)
  · decide
  · decide
  · decide +kernel
theorem one_srt {l : List Str} (h : l.Pairwise ltT) {ss : List Str} (hm : ∀ x, x ∈ ss ↔ x ∈ l) : srt ss = l := ltT_uniq (srt_spec ss).1 h fun x => by rw [(srt_spec ss).2.1, hm]
theorem mark0 : markL S0 = [("box" : Str)] := one_srt (by simp) fun x => by simp [S0]
theorem look0 : lookL S0 = [("ann" : Str), "bo"] := one_srt (List.pairwise_cons.mpr ⟨fun x hx => by rw [List.mem_singleton.mp hx]; unfold ltT; decide +kernel, by simp⟩) fun x => by simp [S0]
def W0 : Wh := [("ann", ⟨((0 : Int) : Rat), ((0 : Int) : Rat), 0, none⟩), ("bo", ⟨((2 : Int) : Rat), ((0 : Int) : Rat), 0, none⟩)]
def t0 : Tr := ((((1 : Int) : Rat), ((1 : Int) : Rat)), "ann", "bo")
theorem kn0 : K0.map knE = W0 := rfl
theorem g0a : getA W0 "ann" = some ⟨((0 : Int) : Rat), ((0 : Int) : Rat), 0, none⟩ := getA_of (by decide +kernel) (by simp [W0])
theorem g0b : getA W0 "bo" = some ⟨((2 : Int) : Rat), ((0 : Int) : Rat), 0, none⟩ := getA_of (by decide +kernel) (by simp [W0])
theorem g0x : getA W0 "box" = none := getA_none.mpr (by decide +kernel)
theorem j0 : jointR ((0 : Int) : Rat) ((0 : Int) : Rat) (1, 1) ((2 : Int) : Rat) ((0 : Int) : Rat) (-1, 1) = some (((1 : Int) : Rat), ((1 : Int) : Rat)) := by decide +kernel
theorem rows0 : rowsM S0 W0 "box" = ([("ann", (1, 1)), ("bo", (-1, 1))] : List Rwy) := by
  unfold rowsM S0
  rw [List.filter_cons, List.filter_cons, List.filter_nil, g0a, g0b]
  rfl
theorem next0 : nextL S0 W0 = ([("box", t0)] : List (Str × Tr)) := by
  have e1 : vM S0 W0 "box" = some t0 := by
    unfold vM
    rw [g0x, rows0]
    have : JW false W0 ("ann", (1, 1)) ("bo", (-1, 1)) = some (((1 : Int) : Rat), ((1 : Int) : Rat)) := by
      unfold JW
      simp only [g0a, g0b]
      exact j0
    show first2 (JW false W0) ([("ann", (1, 1)), ("bo", (-1, 1))] : List Rwy) = some t0
    unfold first2 row2
    rw [List.findSome?_cons, this]
    rfl
  have e2 : vL S0 W0 "ann" = none := by unfold vL; rw [g0a]; rfl
  have e3 : vL S0 W0 "bo" = none := by unfold vL; rw [g0b]; rfl
  unfold nextL allV
  rw [mark0, look0]
  show (([("box", vM S0 W0 "box")] : List (Str × Option Tr)) ++ ([("ann", vL S0 W0 "ann"), ("bo", vL S0 W0 "bo")] : List (Str × Option Tr))).filterMap keepV = _
  rw [e1, e2, e3]
  rfl
def W1 : Wh := W0 ++ ([("box", tagE 1 t0)] : Wh)
theorem next1 : nextL S0 W1 = [] := by
  refine List.eq_nil_iff_forall_not_mem.mpr fun z hz => ?_
  have hf := next_fresh hz
  have hn : z.1 ∈ nmL ∧ z.1 ∈ [("ann" : Str), "bo", "box"] := by
    rcases mem_next hz with ⟨h, _⟩ | ⟨h, _⟩
    · rw [mark0] at h
      rw [List.mem_singleton.mp h]
      exact ⟨by decide +kernel, by simp⟩
    · rw [look0] at h
      rcases List.mem_cons.mp h with h | h
      · rw [h]; exact ⟨by decide +kernel, by simp⟩
      · rw [List.mem_singleton.mp h]; exact ⟨by decide +kernel, by simp⟩
  refine absurd ?_ (getA_none.mp hf)
  have : W1.map (·.1) = [("ann" : Str), "bo", "box"] := rfl
  rw [this]
  exact hn.2
theorem fin0 : finW K0 S0 = W1 := by
  unfold finW
  rw [kn0]
  have h0 : nextL S0 W0 ≠ [] := by rw [next0]; simp
  rw [run_len1 S0 1 W0 10 h0, next0]
  exact run_len0 S0 2 W1 9 next1
theorem loc0 : locL (finW K0 S0) = [.tup [.str "ann", pt ((0 : Int) : Rat) ((0 : Int) : Rat), .int 0], .tup [.str "bo", pt ((2 : Int) : Rat) ((0 : Int) : Rat), .int 0], .tup [.str "box", pt ((1 : Int) : Rat) ((1 : Int) : Rat), .int 1]] := by
  rw [fin0]
  unfold locL
  have s : srt (W1.map (·.1)) = [("ann" : Str), "bo", "box"] := by
    refine one_srt ?_ fun x => Iff.rfl
    refine List.pairwise_cons.mpr ⟨fun x hx => ?_, List.pairwise_cons.mpr ⟨fun x hx => ?_, by simp⟩⟩
    · rcases List.mem_cons.mp hx with h | h
      · rw [h]; unfold ltT; decide +kernel
      · rw [List.mem_singleton.mp h]; unfold ltT; decide +kernel
    · rw [List.mem_singleton.mp hx]; unfold ltT; decide +kernel
  rw [s]
  have nd : (W1.map (·.1)).Nodup := by decide +kernel
  have g1 : getA W1 "ann" = some ⟨((0 : Int) : Rat), ((0 : Int) : Rat), 0, none⟩ := getA_of nd (by simp [W1, W0])
  have g2 : getA W1 "bo" = some ⟨((2 : Int) : Rat), ((0 : Int) : Rat), 0, none⟩ := getA_of nd (by simp [W1, W0])
  have g3 : getA W1 "box" = some (tagE 1 t0) := getA_of nd (by simp [W1])
  show [rowD W1 "ann", rowD W1 "bo", rowD W1 "box"] = _
  unfold rowD
  rw [g1, g2, g3]
  rfl
end RE
namespace L
theorem k04_ev (n : Nat) (ns : List Int) (hn : ns.length ≤ 63) (a' : Nat) (ha : a' ≤ 100) (x2 x3 x4 x5 x6 x7 x10 : Option D) : ∃ ρ', k04C0 (lvl (DT rows) (n + 11)) [some (.scr ns), some (natD a'), x2, x3, x4, x5, x6, x7, none, none, x10] = some (.nx ρ') ∧ ∃ y1 y2 y3 y4 y5 y6 y7 y10, ρ' = [some (.scr ns), y1, y2, y3, y4, y5, y6, y7, none, none, y10] := by
  obtain ⟨out, h1, h2, h3⟩ := draws_ev (n + 9) ns a' 60 27720 hn (by omega) (by omega) (by omega) (by omega)
  rw [nats_of fun x hx => (h2 x hx).1] at h3
  have hds : (out.map Int.toNat).length = 60 := by rw [List.length_map]; exact h1
  generalize out.map Int.toNat = ds at *
  obtain ⟨mo, m1, m2, m3⟩ := draws_ev (n + 9) ns (a' + 1) 16 27720 hn (by omega) (by omega) (by omega) (by omega)
  rw [nats_of fun x hx => (m2 x hx).1] at m3
  have hms : (mo.map Int.toNat).length = 16 := by rw [List.length_map]; exact m1
  generalize mo.map Int.toNat = ms at *
  obtain ⟨K, S, T, h4⟩ := survey_ev (n + 8) hds
  have ok := T.ok
  have hS : S.length ≤ 16 := by
    obtain ⟨l, _, _, l3, _, l5⟩ := T.sg
    rw [l5.length_eq, List.length_map]; exact l3
  obtain ⟨S', e1, e2, h5⟩ := false_ev (n + 8) (K := K) ok.sg (ms := ms) (by omega)
  have ok' := ok.alike e1 e2
  -- whichever survey it is
  have rest : ∀ (SS : List Sg), SvOk K SS nmL → ∀ x4 x5 x6 x7 x10, ∃ ρ', k04C3 (lvl (DT rows) (n + 11)) [some (.scr ns), some (natD a'), some (.lst (ds.map natD)), some (svD K SS), x4, x5, x6, x7, none, none, x10] = some (.nx ρ') ∧ ∃ y1 y2 y3 y4 y5 y6 y7 y10, ρ' = [some (.scr ns), y1, y2, y3, y4, y5, y6, y7, none, none, y10] := by
    intro SS okS x4 x5 x6 x7 x10
    obtain ⟨W', s, nd, lW, f1⟩ := law_found_ev (n + 4) okS
    have f2 := located_ev n okS
    have I := fin_inv okS
    generalize lvl (DT rows) (n + 11) = F at *
    have so := sort_as entD nd (by omega)
    have ls := loc_same s
    generalize finW K SS = W at *
    have lc := loc_lc F 5 10 nd [some (.scr ns), some (natD a'), some (.lst (ds.map natD)), some (svD K SS), x4, some (asD entD W'), x6, x7, none, none, none] (fun d => rfl) (fun d => rfl)
    rw [← ls] at lc
    have ll := loc_len I
    have mk := mkLst_ev (ds := locL W) (by omega)
    have nes := ne_self (pd_loc W)
    have isd : isiD ["list"] (.lst (locL W)) = some (.bl true) := rfl
    have nd' : isDic (.lst (locL W)) = false := rfl
    have ft : fits ((locL W).length + 1) = true := fits_of (by omega)
    refine ⟨[some (.scr ns), some (natD a'), some (.lst (ds.map natD)), some (svD K SS), x4, some (asD entD W'), some (.lst (locL W)), some (.lst (locL W ++ [.int 0])), none, none, x10], ?_, _, _, _, _, _, _, _, _, rfl⟩
    generalize D.lst (ds.map natD) = DS at *
    generalize svD K SS = SV at *
    generalize asD entD W' = WD at *
    unfold k04C3
    simp only [s_sSeq, s_sNil, s_sRet, s_sRetT, s_sIf, s_sAsg, s_sPar, s_sSetM, s_cND, s_cC, s_cB, s_cU, s_cTup, s_cLst, s_cNil, s_cCons, s_cCall, s_cFn, s_cIx, s_cAnd, s_cOr, s_cNot, s_cIf, s_cTr, s_cBT, s_cAndT, s_cOrT, s_cNotT, s_cCh, s_cChT, s_cSl, s_sFor, s_cWalk, s_cLc, s_lcOne, s_cTrue, s_sApp, s_gN, s_gT, s_gsNil, s_gsCons, s_cV0, s_cVs, s_finR, s_finN, s_boolD, s_truB, s_setAll0, s_setAll1, s_op1, s_op2, s_abs, s_addI, s_subI, eqI, neI, ltI, gtI, leI, geI, mkTup1, mkTup2, mkTup3, idx_t0, idx_t1, idx_t2, obS, omS, List.set_cons_zero, List.set_cons_succ, s_cNone, s_cPart, s_intD, s_cRng1, s_walkL, s_walkT, s_lenT, s_lenL, s_lenS, s_slT, s_slL, if_true, if_false, decide_true, decide_false, Bool.not_true, Bool.not_false, Bool.and_true, Bool.and_false, Bool.true_and, Bool.false_and, Bool.false_eq_true, decide_eq_true_eq, s_cEnum, s_sPut, s_revL, s_revT, s_listL, s_listT, s_tupleL, s_tupleT, s_isDicLst, s_isDicTup, s_isDicInt, wipeE_nil, wipeE_cons, f1]
    unfold k04C4
    rw [s_sSeq, s_sAsg, s_cLc]
    simp only [s_cWalk, s_cCall, s_cCons, s_cVs, s_cV0, s_cNil, obS, s_op1, so, s_walkL, wipeE_cons, wipeE_nil, List.set_cons_succ, List.set_cons_zero]
    have es : srt (W'.map (·.1)) = srt (W'.map (·.1)) := rfl
    rw [lc]
    simp only [obS, mk, s_gN, omS, List.set_cons_succ, List.set_cons_zero]
    generalize hL : D.lst (locL W) = LD at *
    unfold k04C5
    simp only [s_sSeq, s_sNil, s_sRet, s_sRetT, s_sIf, s_sAsg, s_sPar, s_sSetM, s_cND, s_cC, s_cB, s_cU, s_cTup, s_cLst, s_cNil, s_cCons, s_cCall, s_cFn, s_cIx, s_cAnd, s_cOr, s_cNot, s_cIf, s_cTr, s_cBT, s_cAndT, s_cOrT, s_cNotT, s_cCh, s_cChT, s_cSl, s_sFor, s_cWalk, s_cLc, s_lcOne, s_cTrue, s_sApp, s_gN, s_gT, s_gsNil, s_gsCons, s_cV0, s_cVs, s_finR, s_finN, s_boolD, s_truB, s_setAll0, s_setAll1, s_op1, s_op2, s_abs, s_addI, s_subI, eqI, neI, ltI, gtI, leI, geI, mkTup1, mkTup2, mkTup3, idx_t0, idx_t1, idx_t2, obS, omS, List.set_cons_zero, List.set_cons_succ, s_cNone, s_cPart, s_intD, s_cRng1, s_walkL, s_walkT, s_lenT, s_lenL, s_lenS, s_slT, s_slL, if_true, if_false, decide_true, decide_false, Bool.not_true, Bool.not_false, Bool.and_true, Bool.and_false, Bool.true_and, Bool.false_and, Bool.false_eq_true, decide_eq_true_eq, s_cEnum, s_sPut, s_revL, s_revT, s_listL, s_listT, s_tupleL, s_tupleT, s_isDicLst, s_isDicTup, s_isDicInt, wipeE_nil, wipeE_cons, f2, nd']
    unfold k04C6
    simp only [s_sSeq, s_sNil, s_sRet, s_sRetT, s_sIf, s_sAsg, s_sPar, s_sSetM, s_cND, s_cC, s_cB, s_cU, s_cTup, s_cLst, s_cNil, s_cCons, s_cCall, s_cFn, s_cIx, s_cAnd, s_cOr, s_cNot, s_cIf, s_cTr, s_cBT, s_cAndT, s_cOrT, s_cNotT, s_cCh, s_cChT, s_cSl, s_sFor, s_cWalk, s_cLc, s_lcOne, s_cTrue, s_sApp, s_gN, s_gT, s_gsNil, s_gsCons, s_cV0, s_cVs, s_finR, s_finN, s_boolD, s_truB, s_setAll0, s_setAll1, s_op1, s_op2, s_abs, s_addI, s_subI, eqI, neI, ltI, gtI, leI, geI, mkTup1, mkTup2, mkTup3, idx_t0, idx_t1, idx_t2, obS, omS, List.set_cons_zero, List.set_cons_succ, s_cNone, s_cPart, s_intD, s_cRng1, s_walkL, s_walkT, s_lenT, s_lenL, s_lenS, s_slT, s_slL, if_true, if_false, decide_true, decide_false, Bool.not_true, Bool.not_false, Bool.and_true, Bool.and_false, Bool.true_and, Bool.false_and, Bool.false_eq_true, decide_eq_true_eq, s_cEnum, s_sPut, s_revL, s_revT, s_listL, s_listT, s_tupleL, s_tupleT, s_isDicLst, s_isDicTup, s_isDicInt, wipeE_nil, wipeE_cons, nes, isd, s_cTr]
    unfold k04C7
    rw [← hL]
    simp only [s_sSeq, s_sNil, s_sRet, s_sRetT, s_sIf, s_sAsg, s_sPar, s_sSetM, s_cND, s_cC, s_cB, s_cU, s_cTup, s_cLst, s_cNil, s_cCons, s_cCall, s_cFn, s_cIx, s_cAnd, s_cOr, s_cNot, s_cIf, s_cTr, s_cBT, s_cAndT, s_cOrT, s_cNotT, s_cCh, s_cChT, s_cSl, s_sFor, s_cWalk, s_cLc, s_lcOne, s_cTrue, s_sApp, s_gN, s_gT, s_gsNil, s_gsCons, s_cV0, s_cVs, s_finR, s_finN, s_boolD, s_truB, s_setAll0, s_setAll1, s_op1, s_op2, s_abs, s_addI, s_subI, eqI, neI, ltI, gtI, leI, geI, mkTup1, mkTup2, mkTup3, idx_t0, idx_t1, idx_t2, obS, omS, List.set_cons_zero, List.set_cons_succ, s_cNone, s_cPart, s_intD, s_cRng1, s_walkL, s_walkT, s_lenT, s_lenL, s_lenS, s_slT, s_slL, if_true, if_false, decide_true, decide_false, Bool.not_true, Bool.not_false, Bool.and_true, Bool.and_false, Bool.true_and, Bool.false_and, Bool.false_eq_true, decide_eq_true_eq, s_cEnum, s_sPut, s_revL, s_revT, s_listL, s_listT, s_tupleL, s_tupleT, s_isDicLst, s_isDicTup, s_isDicInt, wipeE_nil, wipeE_cons, ft]
    unfold k04C8
    rw [hL]
    simp only [s_sSeq, s_sNil, s_sRet, s_sRetT, s_sIf, s_sAsg, s_sPar, s_sSetM, s_cND, s_cC, s_cB, s_cU, s_cTup, s_cLst, s_cNil, s_cCons, s_cCall, s_cFn, s_cIx, s_cAnd, s_cOr, s_cNot, s_cIf, s_cTr, s_cBT, s_cAndT, s_cOrT, s_cNotT, s_cCh, s_cChT, s_cSl, s_sFor, s_cWalk, s_cLc, s_lcOne, s_cTrue, s_sApp, s_gN, s_gT, s_gsNil, s_gsCons, s_cV0, s_cVs, s_finR, s_finN, s_boolD, s_truB, s_setAll0, s_setAll1, s_op1, s_op2, s_abs, s_addI, s_subI, eqI, neI, ltI, gtI, leI, geI, mkTup1, mkTup2, mkTup3, idx_t0, idx_t1, idx_t2, obS, omS, List.set_cons_zero, List.set_cons_succ, s_cNone, s_cPart, s_intD, s_cRng1, s_walkL, s_walkT, s_lenT, s_lenL, s_lenS, s_slT, s_slL, if_true, if_false, decide_true, decide_false, Bool.not_true, Bool.not_false, Bool.and_true, Bool.and_false, Bool.true_and, Bool.false_and, Bool.false_eq_true, decide_eq_true_eq, s_cEnum, s_sPut, s_revL, s_revT, s_listL, s_listT, s_tupleL, s_tupleT, s_isDicLst, s_isDicTup, s_isDicInt, wipeE_nil, wipeE_cons, f2, nes]
  have gt2 : gtD (natD a') (.int 2) = some (.bl (decide (2 < a'))) := by
    have : gtD (natD a') (.int 2) = some (.bl (decide ((2 : Int) < (a' : Int)))) := gtI _ _
    rw [this]
    exact congrArg (fun b => some (D.bl b)) (decide_eq_decide.mpr (by omega))
  have a1 : addD (natD a') (.int 1) = some (natD (a' + 1)) := rfl
  obtain ⟨ρ1, r1, r1'⟩ := rest S ok (some (asD wy (spL ds))) x5 x6 x7 x10
  obtain ⟨ρ2, r2, r2'⟩ := rest S' ok' (some (asD wy (spL ds))) x5 x6 x7 x10
  clear rest
  have h3' : lvl (DT rows) (n + 11) "_law_draws" [.scr ns, natD a', .int 60, .int 27720] = some (.lst (ds.map natD)) := h3
  have m3' : lvl (DT rows) (n + 11) "_law_draws" [.scr ns, natD (a' + 1), .int 16, .int 27720] = some (.lst (ms.map natD)) := m3
  generalize lvl (DT rows) (n + 11) = F at *
  generalize svD K S' = SV' at *
  generalize svD K S = SV at *
  generalize asD wy (spL ds) = SP at *
  generalize D.lst (ds.map natD) = DS at *
  generalize D.lst (ms.map natD) = MS at *
  have pre : k04C0 F [some (.scr ns), some (natD a'), x2, x3, x4, x5, x6, x7, none, none, x10] = k04C2 F [some (.scr ns), some (natD a'), some DS, some SV, some SP, x5, x6, x7, none, none, x10] := by
    unfold k04C0
    simp only [s_sSeq, s_sNil, s_sRet, s_sRetT, s_sIf, s_sAsg, s_sPar, s_sSetM, s_cND, s_cC, s_cB, s_cU, s_cTup, s_cLst, s_cNil, s_cCons, s_cCall, s_cFn, s_cIx, s_cAnd, s_cOr, s_cNot, s_cIf, s_cTr, s_cBT, s_cAndT, s_cOrT, s_cNotT, s_cCh, s_cChT, s_cSl, s_sFor, s_cWalk, s_cLc, s_lcOne, s_cTrue, s_sApp, s_gN, s_gT, s_gsNil, s_gsCons, s_cV0, s_cVs, s_finR, s_finN, s_boolD, s_truB, s_setAll0, s_setAll1, s_op1, s_op2, s_abs, s_addI, s_subI, eqI, neI, ltI, gtI, leI, geI, mkTup1, mkTup2, mkTup3, idx_t0, idx_t1, idx_t2, obS, omS, List.set_cons_zero, List.set_cons_succ, s_cNone, s_cPart, s_intD, s_cRng1, s_walkL, s_walkT, s_lenT, s_lenL, s_lenS, s_slT, s_slL, if_true, if_false, decide_true, decide_false, Bool.not_true, Bool.not_false, Bool.and_true, Bool.and_false, Bool.true_and, Bool.false_and, Bool.false_eq_true, decide_eq_true_eq, s_cEnum, s_sPut, s_revL, s_revT, s_listL, s_listT, s_tupleL, s_tupleT, s_isDicLst, s_isDicTup, s_isDicInt, wipeE_nil, wipeE_cons, h3']
    unfold k04C1
    simp only [s_sSeq, s_sNil, s_sRet, s_sRetT, s_sIf, s_sAsg, s_sPar, s_sSetM, s_cND, s_cC, s_cB, s_cU, s_cTup, s_cLst, s_cNil, s_cCons, s_cCall, s_cFn, s_cIx, s_cAnd, s_cOr, s_cNot, s_cIf, s_cTr, s_cBT, s_cAndT, s_cOrT, s_cNotT, s_cCh, s_cChT, s_cSl, s_sFor, s_cWalk, s_cLc, s_lcOne, s_cTrue, s_sApp, s_gN, s_gT, s_gsNil, s_gsCons, s_cV0, s_cVs, s_finR, s_finN, s_boolD, s_truB, s_setAll0, s_setAll1, s_op1, s_op2, s_abs, s_addI, s_subI, eqI, neI, ltI, gtI, leI, geI, mkTup1, mkTup2, mkTup3, idx_t0, idx_t1, idx_t2, obS, omS, List.set_cons_zero, List.set_cons_succ, s_cNone, s_cPart, s_intD, s_cRng1, s_walkL, s_walkT, s_lenT, s_lenL, s_lenS, s_slT, s_slL, if_true, if_false, decide_true, decide_false, Bool.not_true, Bool.not_false, Bool.and_true, Bool.and_false, Bool.true_and, Bool.false_and, Bool.false_eq_true, decide_eq_true_eq, s_cEnum, s_sPut, s_revL, s_revT, s_listL, s_listT, s_tupleL, s_tupleT, s_isDicLst, s_isDicTup, s_isDicInt, wipeE_nil, wipeE_cons, h4]
  rw [pre]
  unfold k04C2
  cases hb : decide (2 < a') with
  | true =>
    rw [hb] at gt2
    refine ⟨ρ2, ?_, r2'⟩
    simp only [s_sSeq, s_sNil, s_sRet, s_sRetT, s_sIf, s_sAsg, s_sPar, s_sSetM, s_cND, s_cC, s_cB, s_cU, s_cTup, s_cLst, s_cNil, s_cCons, s_cCall, s_cFn, s_cIx, s_cAnd, s_cOr, s_cNot, s_cIf, s_cTr, s_cBT, s_cAndT, s_cOrT, s_cNotT, s_cCh, s_cChT, s_cSl, s_sFor, s_cWalk, s_cLc, s_lcOne, s_cTrue, s_sApp, s_gN, s_gT, s_gsNil, s_gsCons, s_cV0, s_cVs, s_finR, s_finN, s_boolD, s_truB, s_setAll0, s_setAll1, s_op1, s_op2, s_abs, s_addI, s_subI, eqI, neI, ltI, gtI, leI, geI, mkTup1, mkTup2, mkTup3, idx_t0, idx_t1, idx_t2, obS, omS, List.set_cons_zero, List.set_cons_succ, s_cNone, s_cPart, s_intD, s_cRng1, s_walkL, s_walkT, s_lenT, s_lenL, s_lenS, s_slT, s_slL, if_true, if_false, decide_true, decide_false, Bool.not_true, Bool.not_false, Bool.and_true, Bool.and_false, Bool.true_and, Bool.false_and, Bool.false_eq_true, decide_eq_true_eq, s_cEnum, s_sPut, s_revL, s_revT, s_listL, s_listT, s_tupleL, s_tupleT, s_isDicLst, s_isDicTup, s_isDicInt, wipeE_nil, wipeE_cons, gt2, a1, m3', h5]
    exact r2
  | false =>
    rw [hb] at gt2
    refine ⟨ρ1, ?_, r1'⟩
    simp only [s_sSeq, s_sNil, s_sRet, s_sRetT, s_sIf, s_sAsg, s_sPar, s_sSetM, s_cND, s_cC, s_cB, s_cU, s_cTup, s_cLst, s_cNil, s_cCons, s_cCall, s_cFn, s_cIx, s_cAnd, s_cOr, s_cNot, s_cIf, s_cTr, s_cBT, s_cAndT, s_cOrT, s_cNotT, s_cCh, s_cChT, s_cSl, s_sFor, s_cWalk, s_cLc, s_lcOne, s_cTrue, s_sApp, s_gN, s_gT, s_gsNil, s_gsCons, s_cV0, s_cVs, s_finR, s_finN, s_boolD, s_truB, s_setAll0, s_setAll1, s_op1, s_op2, s_abs, s_addI, s_subI, eqI, neI, ltI, gtI, leI, geI, mkTup1, mkTup2, mkTup3, idx_t0, idx_t1, idx_t2, obS, omS, List.set_cons_zero, List.set_cons_succ, s_cNone, s_cPart, s_intD, s_cRng1, s_walkL, s_walkT, s_lenT, s_lenL, s_lenS, s_slT, s_slL, if_true, if_false, decide_true, decide_false, Bool.not_true, Bool.not_false, Bool.and_true, Bool.and_false, Bool.true_and, Bool.false_and, Bool.false_eq_true, decide_eq_true_eq, s_cEnum, s_sPut, s_revL, s_revT, s_listL, s_listT, s_tupleL, s_tupleT, s_isDicLst, s_isDicTup, s_isDicInt, wipeE_nil, wipeE_cons, gt2]
    exact r1
theorem law_ev (n : Nat) (ns : List Int) (hn : ns.length ≤ 63) : lvl (DT rows) (n + 12) "law" [.scr ns] = some (.bl true) := by
  rw [v_law, k04_eq]
  obtain ⟨ρ1, i1, x1, x2, x3, x4, x5, x6, x7, x10, rfl⟩ := for_inv (asg := gN 1) (body := k04C0 (lvl (DT rows) (n + 11))) (fun i ρ => ∃ x1 x2 x3 x4 x5 x6 x7 x10, ρ = [some (.scr ns), x1, x2, x3, x4, x5, x6, x7, none, none, x10]) [natD 0, natD 2, natD 4, natD 6] 0
      [some (.scr ns), none, none, none, none, none, none, none, none, none, none] ⟨none, none, none, none, none, none, none, none, rfl⟩ (by
    rintro i hi ρ ⟨x1, x2, x3, x4, x5, x6, x7, x10, rfl⟩
    have hi : i < 4 := hi
    obtain ⟨a, ha, e⟩ : ∃ a : Nat, a ≤ 100 ∧ [natD 0, natD 2, natD 4, natD 6][i]'hi = natD a := by
      match i, hi with
      | 0, _ => exact ⟨0, by decide, rfl⟩
      | 1, _ => exact ⟨2, by decide, rfl⟩
      | 2, _ => exact ⟨4, by decide, rfl⟩
      | 3, _ => exact ⟨6, by decide, rfl⟩
    rw [e, s_gN, obS]
    simp only [List.set_cons_succ, List.set_cons_zero]
    exact k04_ev n ns hn a ha x2 x3 x4 x5 x6 x7 x10)
  have fl := located_ev n ok0
  rw [loc0] at fl
  generalize lvl (DT rows) (n + 11) = F at *
  have mk4 : mkTup [.int 0, .int 2, .int 4, .int 6] = some (.tup [.int 0, .int 2, .int 4, .int 6]) := rfl
  have sv : D.tup [.tup [.tup [.str "ann", .tup [.int 0, .int 0]], .tup [.str "bo", .tup [.int 2, .int 0]]], .tup [.tup [.str "ann", .str "box", .tup [.int 1, .int 1]], .tup [.str "bo", .str "box", .tup [.int (0 - 1), .int 1]]]] = svD K0 S0 := rfl
  have mk3 : mkLst [D.tup [.str "ann", pt ((0 : Int) : Rat) ((0 : Int) : Rat), .int 0], .tup [.str "bo", pt ((2 : Int) : Rat) ((0 : Int) : Rat), .int 0], .tup [.str "box", pt ((1 : Int) : Rat) ((1 : Int) : Rat), .int 1]] = some (.lst [D.tup [.str "ann", pt ((0 : Int) : Rat) ((0 : Int) : Rat), .int 0], .tup [.str "bo", pt ((2 : Int) : Rat) ((0 : Int) : Rat), .int 0], .tup [.str "box", pt ((1 : Int) : Rat) ((1 : Int) : Rat), .int 1]]) := rfl
  have es : eqD (.lst [D.tup [.str "ann", pt ((0 : Int) : Rat) ((0 : Int) : Rat), .int 0], .tup [.str "bo", pt ((2 : Int) : Rat) ((0 : Int) : Rat), .int 0], .tup [.str "box", pt ((1 : Int) : Rat) ((1 : Int) : Rat), .int 1]]) (.lst [D.tup [.str "ann", pt ((0 : Int) : Rat) ((0 : Int) : Rat), .int 0], .tup [.str "bo", pt ((2 : Int) : Rat) ((0 : Int) : Rat), .int 0], .tup [.str "box", pt ((1 : Int) : Rat) ((1 : Int) : Rat), .int 1]]) = some (.bl true) := eq_self rfl
  have dn : isDic (.lst [D.tup [.str "ann", pt ((0 : Int) : Rat) ((0 : Int) : Rat), .int 0], .tup [.str "bo", pt ((2 : Int) : Rat) ((0 : Int) : Rat), .int 0], .tup [.str "box", pt ((1 : Int) : Rat) ((1 : Int) : Rat), .int 1]]) = false := rfl
  unfold k040
  rw [s_sSeq, s_sFor, s_cWalk, s_cTup]
  simp only [s_cCons, s_cC, s_cNil, obS, mk4, s_walkT]
  have i1 : forD (gN 1) (k04C0 F) [.int 0, .int 2, .int 4, .int 6] [some (.scr ns), none, none, none, none, none, none, none, none, none, none] = _ := i1
  rw [i1]
  simp only [obS]
  unfold k041
  simp only [s_sSeq, s_sNil, s_sRet, s_sRetT, s_sIf, s_sAsg, s_sPar, s_sSetM, s_cND, s_cC, s_cB, s_cU, s_cTup, s_cLst, s_cNil, s_cCons, s_cCall, s_cFn, s_cIx, s_cAnd, s_cOr, s_cNot, s_cIf, s_cTr, s_cBT, s_cAndT, s_cOrT, s_cNotT, s_cCh, s_cChT, s_cSl, s_sFor, s_cWalk, s_cLc, s_lcOne, s_cTrue, s_sApp, s_gN, s_gT, s_gsNil, s_gsCons, s_cV0, s_cVs, s_finR, s_finN, s_boolD, s_truB, s_setAll0, s_setAll1, s_op1, s_op2, s_abs, s_addI, s_subI, eqI, neI, ltI, gtI, leI, geI, mkTup1, mkTup2, mkTup3, idx_t0, idx_t1, idx_t2, obS, omS, List.set_cons_zero, List.set_cons_succ, s_cNone, s_cPart, s_intD, s_cRng1, s_walkL, s_walkT, s_lenT, s_lenL, s_lenS, s_slT, s_slL, if_true, if_false, decide_true, decide_false, Bool.not_true, Bool.not_false, Bool.and_true, Bool.and_false, Bool.true_and, Bool.false_and, Bool.false_eq_true, decide_eq_true_eq, s_cEnum, s_sPut, s_revL, s_revT, s_listL, s_listT, s_tupleL, s_tupleT, s_isDicLst, s_isDicTup, s_isDicInt, wipeE_nil, wipeE_cons]
  unfold k042
  simp only [s_sSeq, s_sNil, s_sRet, s_sRetT, s_sIf, s_sAsg, s_sPar, s_sSetM, s_cND, s_cC, s_cB, s_cU, s_cTup, s_cLst, s_cNil, s_cCons, s_cCall, s_cFn, s_cIx, s_cAnd, s_cOr, s_cNot, s_cIf, s_cTr, s_cBT, s_cAndT, s_cOrT, s_cNotT, s_cCh, s_cChT, s_cSl, s_sFor, s_cWalk, s_cLc, s_lcOne, s_cTrue, s_sApp, s_gN, s_gT, s_gsNil, s_gsCons, s_cV0, s_cVs, s_finR, s_finN, s_boolD, s_truB, s_setAll0, s_setAll1, s_op1, s_op2, s_abs, s_addI, s_subI, eqI, neI, ltI, gtI, leI, geI, mkTup1, mkTup2, mkTup3, idx_t0, idx_t1, idx_t2, obS, omS, List.set_cons_zero, List.set_cons_succ, s_cNone, s_cPart, s_intD, s_cRng1, s_walkL, s_walkT, s_lenT, s_lenL, s_lenS, s_slT, s_slL, if_true, if_false, decide_true, decide_false, Bool.not_true, Bool.not_false, Bool.and_true, Bool.and_false, Bool.true_and, Bool.false_and, Bool.false_eq_true, decide_eq_true_eq, s_cEnum, s_sPut, s_revL, s_revT, s_listL, s_listT, s_tupleL, s_tupleT, s_isDicLst, s_isDicTup, s_isDicInt, wipeE_nil, wipeE_cons]
  unfold k043
  simp only [s_sSeq, s_sNil, s_sRet, s_sRetT, s_sIf, s_sAsg, s_sPar, s_sSetM, s_cND, s_cC, s_cB, s_cU, s_cTup, s_cLst, s_cNil, s_cCons, s_cCall, s_cFn, s_cIx, s_cAnd, s_cOr, s_cNot, s_cIf, s_cTr, s_cBT, s_cAndT, s_cOrT, s_cNotT, s_cCh, s_cChT, s_cSl, s_sFor, s_cWalk, s_cLc, s_lcOne, s_cTrue, s_sApp, s_gN, s_gT, s_gsNil, s_gsCons, s_cV0, s_cVs, s_finR, s_finN, s_boolD, s_truB, s_setAll0, s_setAll1, s_op1, s_op2, s_abs, s_addI, s_subI, eqI, neI, ltI, gtI, leI, geI, mkTup1, mkTup2, mkTup3, idx_t0, idx_t1, idx_t2, obS, omS, List.set_cons_zero, List.set_cons_succ, s_cNone, s_cPart, s_intD, s_cRng1, s_walkL, s_walkT, s_lenT, s_lenL, s_lenS, s_slT, s_slL, if_true, if_false, decide_true, decide_false, Bool.not_true, Bool.not_false, Bool.and_true, Bool.and_false, Bool.true_and, Bool.false_and, Bool.false_eq_true, decide_eq_true_eq, s_cEnum, s_sPut, s_revL, s_revT, s_listL, s_listT, s_tupleL, s_tupleT, s_isDicLst, s_isDicTup, s_isDicInt, wipeE_nil, wipeE_cons, rt_int, pt_eq, mk3, dn]
  have sv2 : D.tup [.tup [.tup [.str "ann", .tup [.int 0, .int 0]], .tup [.str "bo", .tup [.int 2, .int 0]]], .tup [.tup [.str "ann", .str "box", rt ((1 : Int) : Rat)], .tup [.str "bo", .str "box", rt (((0 - 1 : Int)) : Rat)]]] = svD K0 S0 := sv
  unfold k044
  simp only [s_sSeq, s_sNil, s_sRet, s_sRetT, s_sIf, s_sAsg, s_sPar, s_sSetM, s_cND, s_cC, s_cB, s_cU, s_cTup, s_cLst, s_cNil, s_cCons, s_cCall, s_cFn, s_cIx, s_cAnd, s_cOr, s_cNot, s_cIf, s_cTr, s_cBT, s_cAndT, s_cOrT, s_cNotT, s_cCh, s_cChT, s_cSl, s_sFor, s_cWalk, s_cLc, s_lcOne, s_cTrue, s_sApp, s_gN, s_gT, s_gsNil, s_gsCons, s_cV0, s_cVs, s_finR, s_finN, s_boolD, s_truB, s_setAll0, s_setAll1, s_op1, s_op2, s_abs, s_addI, s_subI, eqI, neI, ltI, gtI, leI, geI, mkTup1, mkTup2, mkTup3, idx_t0, idx_t1, idx_t2, obS, omS, List.set_cons_zero, List.set_cons_succ, s_cNone, s_cPart, s_intD, s_cRng1, s_walkL, s_walkT, s_lenT, s_lenL, s_lenS, s_slT, s_slL, if_true, if_false, decide_true, decide_false, Bool.not_true, Bool.not_false, Bool.and_true, Bool.and_false, Bool.true_and, Bool.false_and, Bool.false_eq_true, decide_eq_true_eq, s_cEnum, s_sPut, s_revL, s_revT, s_listL, s_listT, s_tupleL, s_tupleT, s_isDicLst, s_isDicTup, s_isDicInt, wipeE_nil, wipeE_cons, sv2, fl, es]
end L
end
theorem PySem.Challenge.cw_rigeyes_k04_located_holds : PySem.Challenge.rw_rigeyes_k04_located.Holds := by
  exact law_holds 12 ⟨rfl, by decide, by decide⟩ (fun ns hn => L.law_ev 0 ns hn)
